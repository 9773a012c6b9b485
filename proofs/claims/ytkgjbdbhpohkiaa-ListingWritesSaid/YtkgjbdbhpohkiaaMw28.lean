import Derived.Test.YtkgjbdbhpohkiaaMw2
import Derived.Test.YtkgjbdbhpohkiaaMw26
import Derived.Test.YtkgjbdbhpohkiaaMw27
import Derived.Test.YtkgjbdbhpohkiaaMw5
-- from YtkgjbdbhpohkiaaPLix20
section
namespace Go.Proofs.Ytkgjbdbhpohkiaa.PLi
open Go.RowKit Go.Proofs.YtkgjbdbhpohkiaaW.PrintWords Go.Proofs.YtkgjbdbhpohkiaaW.PrintLast Go.Proofs.YtkgjbdbhpohkiaaW.PrintMore Go.Proofs.Ytkgjbdbhpohkiaa.Zip
attribute [local go_sem] max2_int min2_int max_two min_two max_three min_three max_four min_four   -- for this text's walks alone
set_option linter.unusedVariables false
set_option linter.unusedSimpArgs false
mutual
def turntableref37_Text.l0 : Nat → List (S33) → ByteArray → Int → Option (ByteArray)
 | 0, _, _, _ => none
 | k + 1, x0, x3, x4 => if x4 < (x0.length : Int) then (if x3.size + 5 ≤ 9223372036854775807 then (if 0 ≤ x4 then ((turntableref37_list.f k ((rd_T33 x0 x4).f0)).bind fun t231 => (if (x3 ++ (⟨#[98, 111, 100, 121, 32]⟩ : ByteArray)).size + t231.size ≤ 9223372036854775807 then (if ((x3 ++ (⟨#[98, 111, 100, 121, 32]⟩ : ByteArray)) ++ t231).size + 1 ≤ 9223372036854775807 then ((turntableref37_small.f k ((rd_T33 x0 x4).f1)).bind fun t233 => (if (((x3 ++ (⟨#[98, 111, 100, 121, 32]⟩ : ByteArray)) ++ t231) ++ (⟨#[32]⟩ : ByteArray)).size + t233.size ≤ 9223372036854775807 then (if ((((x3 ++ (⟨#[98, 111, 100, 121, 32]⟩ : ByteArray)) ++ t231) ++ (⟨#[32]⟩ : ByteArray)) ++ t233).size + 3 ≤ 9223372036854775807 then (turntableref37_Text.l1 k x0 (((((x3 ++ (⟨#[98, 111, 100, 121, 32]⟩ : ByteArray)) ++ t231) ++ (⟨#[32]⟩ : ByteArray)) ++ t233) ++ (⟨#[32, 123, 10]⟩ : ByteArray)) x4 0) else (none)) else (none))) else (none)) else (none))) else (none)) else (none)) else (some x3)
def turntableref37_Text.l1 : Nat → List (S33) → ByteArray → Int → Int → Option (ByteArray)
 | 0, _, _, _, _ => none
 | k + 1, x0, x3, x4, x5 => if 0 ≤ x4 then (if x4 < (x0.length : Int) then (if x5 < (((rd_T33 x0 x4).f2).length : Int) then (if x3.size + 2 ≤ 9223372036854775807 then (if 0 ≤ x5 then ((turntableref37_Inst.f k ((rd_T37 ((rd_T33 x0 x4).f2) x5).f0) ((rd_T37 ((rd_T33 x0 x4).f2) x5).f1) ((rd_T37 ((rd_T33 x0 x4).f2) x5).f2) ((rd_T37 ((rd_T33 x0 x4).f2) x5).f3) ((rd_T37 ((rd_T33 x0 x4).f2) x5).f4) ((rd_T37 ((rd_T33 x0 x4).f2) x5).f5) ((rd_T37 ((rd_T33 x0 x4).f2) x5).f6.f0) ((rd_T37 ((rd_T33 x0 x4).f2) x5).f6.f1)).bind fun t237 => (if (x3 ++ (⟨#[32, 32]⟩ : ByteArray)).size + t237.size ≤ 9223372036854775807 then (if ((x3 ++ (⟨#[32, 32]⟩ : ByteArray)) ++ t237).size + 1 ≤ 9223372036854775807 then (turntableref37_Text.l1 k x0 (((x3 ++ (⟨#[32, 32]⟩ : ByteArray)) ++ t237) ++ (⟨#[10]⟩ : ByteArray)) x4 (wrap64 (x5 + 1))) else (none)) else (none))) else (none)) else (none)) else (if x3.size + 2 ≤ 9223372036854775807 then (turntableref37_Text.l0 k x0 (x3 ++ (⟨#[125, 10]⟩ : ByteArray)) (wrap64 (x4 + 1))) else (none))) else (none)) else (none)
end
def turntableref37_Text.f (k : Nat) (l0 : List (S33)) : Option (ByteArray) := turntableref37_Text.l0 k l0 (⟨#[]⟩ : ByteArray) 0
theorem turntableref37_Text.mono_l : ∀ k, (∀ y0 y1 y2, LeO (turntableref37_Text.l0 k y0 y1 y2) (turntableref37_Text.l0 (k + 1) y0 y1 y2)) ∧ (∀ y0 y1 y2 y3, LeO (turntableref37_Text.l1 k y0 y1 y2 y3) (turntableref37_Text.l1 (k + 1) y0 y1 y2 y3))
 | 0 => ⟨fun _ _ _ r h => by simp [turntableref37_Text.l0] at h, fun _ _ _ _ r h => by simp [turntableref37_Text.l1] at h⟩
 | k + 1 => by
  obtain ⟨ih0, ih1⟩ := turntableref37_Text.mono_l k
  refine ⟨?_, ?_⟩
  ·intro y0 y1 y2
   unfold turntableref37_Text.l0
   repeat' first
   | (with_reducible exact ih0 _ _ _)
   | (with_reducible exact ih1 _ _ _ _)
   | (with_reducible exact turntableref37_Inst.mono _ _ _ _ _ _ _ _ _)
   | (with_reducible exact turntableref37_list.mono _ _)
   | (with_reducible exact turntableref37_small.mono _ _)
   | (with_reducible exact LeO.refl _)
   | (with_reducible exact LeO.none _)
   | (with_reducible refine LeO.ite ?_ ?_)
   | (with_reducible refine LeO.bind ?_ (fun _ => ?_))
   | exact ih0 _ _ _
   | exact ih1 _ _ _ _
   | exact turntableref37_Inst.mono _ _ _ _ _ _ _ _ _
   | exact turntableref37_list.mono _ _
   | exact turntableref37_small.mono _ _
   | exact LeO.none _
   | refine LeO.ite ?_ ?_
   | refine LeO.bind ?_ (fun _ => ?_)
  ·intro y0 y1 y2 y3
   unfold turntableref37_Text.l1
   repeat' first
   | (with_reducible exact ih0 _ _ _)
   | (with_reducible exact ih1 _ _ _ _)
   | (with_reducible exact turntableref37_Inst.mono _ _ _ _ _ _ _ _ _)
   | (with_reducible exact turntableref37_list.mono _ _)
   | (with_reducible exact turntableref37_small.mono _ _)
   | (with_reducible exact LeO.refl _)
   | (with_reducible exact LeO.none _)
   | (with_reducible refine LeO.ite ?_ ?_)
   | (with_reducible refine LeO.bind ?_ (fun _ => ?_))
   | exact ih0 _ _ _
   | exact ih1 _ _ _ _
   | exact turntableref37_Inst.mono _ _ _ _ _ _ _ _ _
   | exact turntableref37_list.mono _ _
   | exact turntableref37_small.mono _ _
   | exact LeO.none _
   | refine LeO.ite ?_ ?_
   | refine LeO.bind ?_ (fun _ => ?_)
theorem turntableref37_Text.mono : ∀ a0 k, LeO (turntableref37_Text.f k a0) (turntableref37_Text.f (k + 1) a0) := by
 intro a0 k
 obtain ⟨ih0, ih1⟩ := turntableref37_Text.mono_l k
 unfold turntableref37_Text.f
 repeat' first
   | (with_reducible exact ih0 _ _ _)
   | (with_reducible exact ih1 _ _ _ _)
   | (with_reducible exact turntableref37_Inst.mono _ _ _ _ _ _ _ _ _)
   | (with_reducible exact turntableref37_list.mono _ _)
   | (with_reducible exact turntableref37_small.mono _ _)
   | (with_reducible exact LeO.refl _)
   | (with_reducible exact LeO.none _)
   | (with_reducible refine LeO.ite ?_ ?_)
   | (with_reducible refine LeO.bind ?_ (fun _ => ?_))
   | exact ih0 _ _ _
   | exact ih1 _ _ _ _
   | exact turntableref37_Inst.mono _ _ _ _ _ _ _ _ _
   | exact turntableref37_list.mono _ _
   | exact turntableref37_small.mono _ _
   | exact LeO.none _
   | refine LeO.ite ?_ ?_
   | refine LeO.bind ?_ (fun _ => ?_)
def turntableref37_Text.T5 : Bool × List (List Nat × List Nat) := (true, [([], []), ([0], [0]), ([], []), ([], []), ([2, 3], [2, 3]), ([4], [4]), ([5], [5]), ([6], [6]), ([1, 7], [1, 7]), ([8], [8]), ([], []), ([], []), ([10, 11], [10, 11]), ([12], [12]), ([13], [13]), ([14, 7], [14]), ([9, 15], [9, 15]), ([16], [16]), ([17, 15, 0, 1, 2, 3, 4, 5, 6, 7, 8, 9, 10, 11, 12, 13, 14, 15, 16, 17], [0, 17])])
def turntableref37_Text.B5 : List Nat := [0, 1, 0, 0, 12, 28, 60, 124, 255, 511, 0, 0, 3072, 7168, 15360, 31996, 65535, 131071, 262143]
theorem turntableref37_Text.tab5 : rtab .any (opsOf Try.f15 5) = turntableref37_Text.T5 := by kernel_rfl
theorem turntableref37_Text.bits5 : waitsOk turntableref37_Text.T5.2 turntableref37_Text.B5 = true := by kernel_rfl
set_option maxHeartbeats 8000000 in
set_option maxRecDepth 100000 in
theorem turntableref37_Text.calls (k : Nat) (A0 : Option Addr) (c0 : Nat) (l0 : List (S33)) (r : ByteArray) (w : World) (hr0 : Kd.C k33 w A0 l0.length l0) (hc0 : l0.length ≤ c0) (h : turntableref37_Text.f k l0 = some r) :
  Calls Try.prog 15 #[.slice A0 l0.length c0] w fun e w' => e = .returned (.string r) ∧ Below w.heap.size w w' := by
 have hu37 := Try.underlying37
 have HR0 := Aside0.mk hr0
 have HC0 := Aside0.mk hc0
 clear hr0 hc0
 have HB := Aside0.mk (Below.refl w.heap.size w)
 have H : (turntableref37_Text.l0 k l0 (⟨#[]⟩ : ByteArray) 0) = some r := h
 clear h
 have H' := Aside0.mk H
 clear H
 go_enter Try.func15, Try.ntmps15
 go_wp2
 go_loopg [3, 4] k (fun kq v3 v4 w' => ∃ (x3_1 : ByteArray) (x4_1 : Int), v3 = .string x3_1 ∧ v4 = .int .i64 x4_1 ∧ Aside0 (turntableref37_Text.l0 kq l0 x3_1 x4_1 = some r) ∧ Aside0 (kq ≤ k) ∧ Aside0 (Below w.heap.size w w'))
 case atStart => exact ⟨((⟨#[]⟩ : ByteArray)), (0), (by first | rfl | (simp; done) | (simp [*]; done)), (by first | rfl | (simp; done) | (simp [*]; done)), H', ⟨Nat.le_refl _⟩, ⟨zB HB.out⟩⟩
 case round =>
  clear H'
  try clear c1
  obtain ⟨x3_1, x4_1, rfl, rfl, HA, HK1, HB⟩ := hrel
  cases gk with
  | zero => exact absurd HA.out (by simp [turntableref37_Text.l0])
  | succ k1 =>
   have H := HA.out
   clear HA
   simp only [turntableref37_Text.l0] at H
   by_cases c2 : x4_1 < (l0.length : Int)
   ·rw [if_pos c2] at H
    have c2b0 : decide (x4_1 < (l0.length : Int)) = true := decide_eq_true c2
    clear c2
    by_cases c3 : x3_1.size + 5 ≤ 9223372036854775807
    ·rw [if_pos c3] at H
     have c3b0 := eq_true c3
     have c3b1 : decide (x3_1.size + 5 ≤ 9223372036854775807) = true := decide_eq_true c3
     try have c3b2 : (9223372036854775807 < x3_1.size + 5) = False := eq_false (Nat.not_lt.2 c3)
     by_cases c4 : 0 ≤ x4_1
     ·rw [if_pos c4] at H
      have c4b0 : decide (0 ≤ x4_1) = true := decide_eq_true c4
      clear c4
      replace H := Option.bind_eq_some_iff.mp H
      obtain ⟨t231, A50, H⟩ := H
      replace H : (if (x3_1 ++ (⟨#[98, 111, 100, 121, 32]⟩ : ByteArray)).size + t231.size ≤ 9223372036854775807 then (if ((x3_1 ++ (⟨#[98, 111, 100, 121, 32]⟩ : ByteArray)) ++ t231).size + 1 ≤ 9223372036854775807 then ((turntableref37_small.f k1 ((rd_T33 l0 x4_1).f1)).bind fun t233 => (if (((x3_1 ++ (⟨#[98, 111, 100, 121, 32]⟩ : ByteArray)) ++ t231) ++ (⟨#[32]⟩ : ByteArray)).size + t233.size ≤ 9223372036854775807 then (if ((((x3_1 ++ (⟨#[98, 111, 100, 121, 32]⟩ : ByteArray)) ++ t231) ++ (⟨#[32]⟩ : ByteArray)) ++ t233).size + 3 ≤ 9223372036854775807 then (turntableref37_Text.l1 k1 l0 (((((x3_1 ++ (⟨#[98, 111, 100, 121, 32]⟩ : ByteArray)) ++ t231) ++ (⟨#[32]⟩ : ByteArray)) ++ t233) ++ (⟨#[32, 123, 10]⟩ : ByteArray)) x4_1 0) else (none)) else (none))) else (none)) else (none)) = some r := H
      have A5 := Aside0.mk A50
      clear A50
      by_cases c6 : (x3_1 ++ (⟨#[98, 111, 100, 121, 32]⟩ : ByteArray)).size + t231.size ≤ 9223372036854775807
      ·rw [if_pos c6] at H
       have c6b0 := eq_true c6
       have c6b1 : decide ((x3_1 ++ (⟨#[98, 111, 100, 121, 32]⟩ : ByteArray)).size + t231.size ≤ 9223372036854775807) = true := decide_eq_true c6
       try have c6b2 : (9223372036854775807 < (x3_1 ++ (⟨#[98, 111, 100, 121, 32]⟩ : ByteArray)).size + t231.size) = False := eq_false (Nat.not_lt.2 c6)
       try (have c6b3 := c6b2; simp only [ByteArray.size_append, show ((⟨#[98, 111, 100, 121, 32]⟩ : ByteArray)).size = 5 from rfl] at c6b3)
       by_cases c7 : ((x3_1 ++ (⟨#[98, 111, 100, 121, 32]⟩ : ByteArray)) ++ t231).size + 1 ≤ 9223372036854775807
       ·rw [if_pos c7] at H
        have c7b0 := eq_true c7
        have c7b1 : decide (((x3_1 ++ (⟨#[98, 111, 100, 121, 32]⟩ : ByteArray)) ++ t231).size + 1 ≤ 9223372036854775807) = true := decide_eq_true c7
        try have c7b2 : (9223372036854775807 < ((x3_1 ++ (⟨#[98, 111, 100, 121, 32]⟩ : ByteArray)) ++ t231).size + 1) = False := eq_false (Nat.not_lt.2 c7)
        try (have c7b3 := c7b2; simp only [ByteArray.size_append, show ((⟨#[98, 111, 100, 121, 32]⟩ : ByteArray)).size = 5 from rfl] at c7b3)
        replace H := Option.bind_eq_some_iff.mp H
        obtain ⟨t233, A80, H⟩ := H
        replace H : (if (((x3_1 ++ (⟨#[98, 111, 100, 121, 32]⟩ : ByteArray)) ++ t231) ++ (⟨#[32]⟩ : ByteArray)).size + t233.size ≤ 9223372036854775807 then (if ((((x3_1 ++ (⟨#[98, 111, 100, 121, 32]⟩ : ByteArray)) ++ t231) ++ (⟨#[32]⟩ : ByteArray)) ++ t233).size + 3 ≤ 9223372036854775807 then (turntableref37_Text.l1 k1 l0 (((((x3_1 ++ (⟨#[98, 111, 100, 121, 32]⟩ : ByteArray)) ++ t231) ++ (⟨#[32]⟩ : ByteArray)) ++ t233) ++ (⟨#[32, 123, 10]⟩ : ByteArray)) x4_1 0) else (none)) else (none)) = some r := H
        have A8 := Aside0.mk A80
        clear A80
        by_cases c9 : (((x3_1 ++ (⟨#[98, 111, 100, 121, 32]⟩ : ByteArray)) ++ t231) ++ (⟨#[32]⟩ : ByteArray)).size + t233.size ≤ 9223372036854775807
        ·rw [if_pos c9] at H
         have c9b0 := eq_true c9
         have c9b1 : decide ((((x3_1 ++ (⟨#[98, 111, 100, 121, 32]⟩ : ByteArray)) ++ t231) ++ (⟨#[32]⟩ : ByteArray)).size + t233.size ≤ 9223372036854775807) = true := decide_eq_true c9
         try have c9b2 : (9223372036854775807 < (((x3_1 ++ (⟨#[98, 111, 100, 121, 32]⟩ : ByteArray)) ++ t231) ++ (⟨#[32]⟩ : ByteArray)).size + t233.size) = False := eq_false (Nat.not_lt.2 c9)
         try (have c9b3 := c9b2; simp only [ByteArray.size_append, show ((⟨#[32]⟩ : ByteArray)).size = 1 from rfl, show ((⟨#[98, 111, 100, 121, 32]⟩ : ByteArray)).size = 5 from rfl] at c9b3)
         by_cases c10 : ((((x3_1 ++ (⟨#[98, 111, 100, 121, 32]⟩ : ByteArray)) ++ t231) ++ (⟨#[32]⟩ : ByteArray)) ++ t233).size + 3 ≤ 9223372036854775807
         ·rw [if_pos c10] at H
          have c10b0 := eq_true c10
          have c10b1 : decide (((((x3_1 ++ (⟨#[98, 111, 100, 121, 32]⟩ : ByteArray)) ++ t231) ++ (⟨#[32]⟩ : ByteArray)) ++ t233).size + 3 ≤ 9223372036854775807) = true := decide_eq_true c10
          try have c10b2 : (9223372036854775807 < ((((x3_1 ++ (⟨#[98, 111, 100, 121, 32]⟩ : ByteArray)) ++ t231) ++ (⟨#[32]⟩ : ByteArray)) ++ t233).size + 3) = False := eq_false (Nat.not_lt.2 c10)
          try (have c10b3 := c10b2; simp only [ByteArray.size_append, show ((⟨#[32]⟩ : ByteArray)).size = 1 from rfl, show ((⟨#[98, 111, 100, 121, 32]⟩ : ByteArray)).size = 5 from rfl] at c10b3)
          have H' := Aside0.mk H
          clear H
          try go_wp2
          have n0_ := Aside0.mk (below_drew1 HB.out)
          clear HB
          have HB := n0_
          clear n0_
          have p230 : 0 ≤ (x4_1 : Int) := of_decide_eq_true zS
          have q230 : x4_1 < (l0.length : Int) := of_decide_eq_true zS
          obtain ⟨ad230, A230_0, c230_0, A230_2, c230_2, e230, hx230_0, hx230_1, hx230_2, hl230_0, hi230_0, hl230_2, hi230_2⟩ := at_T33 HR0.out x4_1 p230 q230
          have hw230_2 := hx230_2
          have hw230_1 := hx230_1
          have hw230_0 := hx230_0
          cases e230
          replace hx230_0 := (HB.out.cell (World.block_lt_of_cell? w _ hx230_0)).trans hx230_0
          replace hx230_1 := (HB.out.cell (World.block_lt_of_cell? w _ hx230_1)).trans hx230_1
          replace hx230_2 := (HB.out.cell (World.block_lt_of_cell? w _ hx230_2)).trans hx230_2
          have HR230_0 := Aside0.mk hi230_0
          have HC230_0 := Aside0.mk hl230_0
          clear hi230_0 hl230_0
          have HR230_2 := Aside0.mk hi230_2
          have HC230_2 := Aside0.mk hl230_2
          clear hi230_2 hl230_2
          replace p230 := eq_true p230
          replace q230 := eq_true q230
          have p232 : 0 ≤ (x4_1 : Int) := of_decide_eq_true zS
          have q232 : x4_1 < (l0.length : Int) := of_decide_eq_true zS
          obtain ⟨ad232, A232_0, c232_0, A232_2, c232_2, e232, hx232_0, hx232_1, hx232_2, hl232_0, hi232_0, hl232_2, hi232_2⟩ := at_T33 HR0.out x4_1 p232 q232
          have hw232_2 := hx232_2
          have hw232_1 := hx232_1
          have hw232_0 := hx232_0
          obtain rfl : ad230 = ad232 := (by injection e232)
          replace hx232_0 := (HB.out.cell (World.block_lt_of_cell? w _ hx232_0)).trans hx232_0
          replace hx232_1 := (HB.out.cell (World.block_lt_of_cell? w _ hx232_1)).trans hx232_1
          replace hx232_2 := (HB.out.cell (World.block_lt_of_cell? w _ hx232_2)).trans hx232_2
          have HR232_0 := Aside0.mk hi232_0
          have HC232_0 := Aside0.mk hl232_0
          clear hi232_0 hl232_0
          have HR232_2 := Aside0.mk hi232_2
          have HC232_2 := Aside0.mk hl232_2
          clear hi232_2 hl232_2
          replace p232 := eq_true p232
          replace q232 := eq_true q232
          have ea_ := Option.some.inj (hx230_0.symm.trans hx232_0)
          injection ea_ with ea_ en_ ec_
          subst ea_
          subst ec_
          clear en_
          have ea_ := Option.some.inj (hx230_2.symm.trans hx232_2)
          injection ea_ with ea_ en_ ec_
          subst ea_
          subst ec_
          clear en_
          refine start_ (n := 19) (S := fun w' => w'.cell? (ad230.add ((x4_1).toNat * 3)) = some (.slice A230_0 ((rd_T33 l0 x4_1).f0).length c230_0) ∧ w'.cell? ⟨(ad230.add ((x4_1).toNat * 3)).block, (ad230.add ((x4_1).toNat * 3)).off + 1, none⟩ = some (.int .i64 ((rd_T33 l0 x4_1).f1)) ∧ w'.cell? ⟨(ad230.add ((x4_1).toNat * 3)).block, (ad230.add ((x4_1).toNat * 3)).off + 2, none⟩ = some (.slice A230_2 ((rd_T33 l0 x4_1).f2).length c230_2) ∧ w'.cell? (ad230.add ((x4_1).toNat * 3)) = some (.slice A230_0 ((rd_T33 l0 x4_1).f0).length c230_0) ∧ w'.cell? ⟨(ad230.add ((x4_1).toNat * 3)).block, (ad230.add ((x4_1).toNat * 3)).off + 1, none⟩ = some (.int .i64 ((rd_T33 l0 x4_1).f1)) ∧ w'.cell? ⟨(ad230.add ((x4_1).toNat * 3)).block, (ad230.add ((x4_1).toNat * 3)).off + 2, none⟩ = some (.slice A230_2 ((rd_T33 l0 x4_1).f2).length c230_2)) (ds := []) #[false, false, false, false, false, false, false, false, false, false, false, false, false, false, false, false, false, false, false] (by kernel_rfl) rfl rfl ⟨((HB.out.cell (World.block_lt_of_cell? w _ hw230_0)).trans hw230_0), ((HB.out.cell (World.block_lt_of_cell? w _ hw230_1)).trans hw230_1), ((HB.out.cell (World.block_lt_of_cell? w _ hw230_2)).trans hw230_2), ((HB.out.cell (World.block_lt_of_cell? w _ hw232_0)).trans hw232_0), ((HB.out.cell (World.block_lt_of_cell? w _ hw232_1)).trans hw232_1), ((HB.out.cell (World.block_lt_of_cell? w _ hw232_2)).trans hw232_2)⟩ (fun hHeld => ?_); refine with_tabW turntableref37_Text.tab5 turntableref37_Text.bits5 (fun HT_ HW_ => ?_)
          generalize wr.drew = w11 at HB HR230_0 HR230_2 HR232_0 HR232_2 hx230_0 hx230_1 hx230_2 hx232_0 hx232_1 hx232_2 hHeld ⊢
          refine pure_ (i := 0) (N := some 12) (v := ?_) (a' := ?_) #[true, false, false, false, false, false, false, false, false, false, false, false, false, false, false, false, false, false, false] rfl rfl (any_of HT_.out (by kernel_rfl)) (fun _ _ _ h => h) (Or.inl ⟨by rfl, ?_⟩) ?_ ?_
          rotate_left
          ·intro w'
           go_simp
           with_reducible rfl
          rotate_left
          ·simp only [Act.put, List.setIfInBounds_toArray, List.set_cons_zero, List.set_cons_succ, i64_w, i32_w]
           rfl
          refine pure_ (i := 1) (N := some 13) (v := ?_) (a' := ?_) #[true, true, false, false, false, false, false, false, false, false, false, false, false, false, false, false, false, false, false] rfl rfl (any_of HT_.out (by kernel_rfl)) (fun _ _ _ h => h) (Or.inl ⟨by rfl, ?_⟩) ?_ ?_
          rotate_left
          ·intro w'
           go_simp
           with_reducible rfl
          rotate_left
          ·simp only [Act.put, List.setIfInBounds_toArray, List.set_cons_zero, List.set_cons_succ, i64_w, i32_w]
           rfl
          refine pure_ (i := 2) (N := some 14) (v := ?_) (a' := ?_) #[true, true, true, false, false, false, false, false, false, false, false, false, false, false, false, false, false, false, false] rfl rfl (any_of HT_.out (by kernel_rfl)) (fun _ _ _ h => h) (Or.inl ⟨by rfl, ?_⟩) ?_ ?_
          rotate_left
          ·intro w'
           go_simp
           with_reducible rfl
          rotate_left
          ·simp only [Act.put, List.setIfInBounds_toArray, List.set_cons_zero, List.set_cons_succ, i64_w, i32_w]
           rfl
          refine pure_ (i := 3) (N := some 15) (v := ?_) (a' := ?_) #[true, true, true, true, false, false, false, false, false, false, false, false, false, false, false, false, false, false, false] rfl rfl (any_of HT_.out (by kernel_rfl)) (fun _ _ _ h => h) (Or.inl ⟨by rfl, ?_⟩) ?_ ?_
          rotate_left
          ·intro w'
           go_simp
           with_reducible rfl
          rotate_left
          ·simp only [Act.put, List.setIfInBounds_toArray, List.set_cons_zero, List.set_cons_succ, i64_w, i32_w]
           rfl
          refine pure_ (i := 4) (N := some 16) (v := ?_) (a' := ?_) #[true, true, true, true, true, false, false, false, false, false, false, false, false, false, false, false, false, false, false] rfl rfl (any_of HT_.out (by kernel_rfl)) (fun _ _ _ h => h) (Or.inl ⟨by rfl, ?_⟩) ?_ ?_
          rotate_left
          ·intro w'
           go_simp
           with_reducible rfl
          rotate_left
          ·simp only [Act.put, List.setIfInBounds_toArray, List.set_cons_zero, List.set_cons_succ, i64_w, i32_w]
           rfl
          refine pure_ (i := 5) (N := some 17) (v := ?_) (a' := ?_) #[true, true, true, true, true, true, false, false, false, false, false, false, false, false, false, false, false, false, false] rfl rfl (any_of HT_.out (by kernel_rfl)) (fun _ _ _ h => h) (Or.inl ⟨by rfl, ?_⟩) ?_ ?_
          rotate_left
          ·intro w'
           go_simp
           with_reducible rfl
          rotate_left
          ·simp only [Act.put, List.setIfInBounds_toArray, List.set_cons_zero, List.set_cons_succ, i64_w, i32_w]
           rfl
          refine pure_ (i := 10) (N := some 22) (v := ?_) (a' := ?_) #[true, true, true, true, true, true, false, false, false, false, true, false, false, false, false, false, false, false, false] rfl rfl (any_of HT_.out (by kernel_rfl)) (fun _ _ _ h => h) (Or.inl ⟨by rfl, ?_⟩) ?_ ?_
          rotate_left
          ·intro w'
           go_simp
           with_reducible rfl
          rotate_left
          ·simp only [Act.put, List.setIfInBounds_toArray, List.set_cons_zero, List.set_cons_succ, i64_w, i32_w]
           rfl
          refine pure_ (i := 11) (N := some 23) (v := ?_) (a' := ?_) #[true, true, true, true, true, true, false, false, false, false, true, true, false, false, false, false, false, false, false] rfl rfl (any_of HT_.out (by kernel_rfl)) (fun _ _ _ h => h) (Or.inl ⟨by rfl, ?_⟩) ?_ ?_
          rotate_left
          ·intro w'
           go_simp
           with_reducible rfl
          rotate_left
          ·simp only [Act.put, List.setIfInBounds_toArray, List.set_cons_zero, List.set_cons_succ, i64_w, i32_w]
           rfl
          refine pure_ (i := 12) (N := some 24) (v := ?_) (a' := ?_) #[true, true, true, true, true, true, false, false, false, false, true, true, true, false, false, false, false, false, false] rfl rfl (any_of HT_.out (by kernel_rfl)) (fun _ _ _ h => h) (Or.inl ⟨by rfl, ?_⟩) ?_ ?_
          rotate_left
          ·intro w'
           go_simp
           with_reducible rfl
          rotate_left
          ·simp only [Act.put, List.setIfInBounds_toArray, List.set_cons_zero, List.set_cons_succ, i64_w, i32_w]
           rfl
          refine pure_ (i := 13) (N := some 25) (v := ?_) (a' := ?_) #[true, true, true, true, true, true, false, false, false, false, true, true, true, true, false, false, false, false, false] rfl rfl (any_of HT_.out (by kernel_rfl)) (fun _ _ _ h => h) (Or.inl ⟨by rfl, ?_⟩) ?_ ?_
          rotate_left
          ·intro w'
           go_simp
           with_reducible rfl
          rotate_left
          ·simp only [Act.put, List.setIfInBounds_toArray, List.set_cons_zero, List.set_cons_succ, i64_w, i32_w]
           rfl
          refine take_ (i := 6) (N := some 18) (v := ?_) (a' := ?_) #[true, true, true, true, true, true, true, false, false, false, true, true, true, true, false, false, false, false, false] rfl rfl (take_ofW HT_.out HW_.out (by kernel_rfl)) (fun _ _ _ h => h) (Or.inl ⟨by rfl, ?_⟩) hHeld ?_ ?_
          rotate_left
          ·rintro w' ⟨s0, s1, s2, s3, s4, s5⟩
           go_simp
           with_reducible rfl
          rotate_left
          ·simp only [Act.put, List.setIfInBounds_toArray, List.set_cons_zero, List.set_cons_succ, i64_w, i32_w]
           rfl
          refine take_ (i := 14) (N := some 26) (v := ?_) (a' := ?_) #[true, true, true, true, true, true, true, false, false, false, true, true, true, true, true, false, false, false, false] rfl rfl (take_ofW HT_.out HW_.out (by kernel_rfl)) (fun _ _ _ h => h) (Or.inl ⟨by rfl, ?_⟩) hHeld ?_ ?_
          rotate_left
          ·rintro w' ⟨s0, s1, s2, s3, s4, s5⟩
           go_simp
           with_reducible rfl
          rotate_left
          ·simp only [Act.put, List.setIfInBounds_toArray, List.set_cons_zero, List.set_cons_succ, i64_w, i32_w]
           rfl
          refine one_ (i := 7) (N := some 19) #[true, true, true, true, true, true, true, true, false, false, true, true, true, true, true, false, false, false, false] rfl rfl (one_of HT_.out (by kernel_rfl)) (by decide) (fun K hK => ?_)
          refine goes_ Try.func33 (by kernel_rfl) rfl #[.slice A230_0 ((rd_T33 l0 x4_1).f0).length c230_0] (by rfl) rfl rfl zA ?_
          with_reducible refine (turntableref37_list.calls k1 _ _ ((rd_T33 l0 x4_1).f0) t231 _ ?side1 ?side2 A5.out).mono ?_
          (case side1 => repeat (first | exact (Kd.C_below HR230_0.out HB.out) | (with_reducible refine Kd.C_alloc ?_ _) | (with_reducible refine Kd.C_drewN ?_ _) | (with_reducible refine Kd.C_drew ?_)))
          (case side2 => exact HC230_0.out)
          rintro e w12 ⟨rfl, hb⟩
          refine ⟨_, rfl, ?_⟩
          have n0_ := Aside0.mk (below_step (zB HB.out) hb)
          clear HB
          have HB := n0_
          clear n0_
          (try clear hb)
          (try clear hb2)
          (try clear hk)
          (try clear hi)
          refine hK.out _ _ ⟨((HB.out.cell (World.block_lt_of_cell? w _ hw230_0)).trans hw230_0), ((HB.out.cell (World.block_lt_of_cell? w _ hw230_1)).trans hw230_1), ((HB.out.cell (World.block_lt_of_cell? w _ hw230_2)).trans hw230_2), ((HB.out.cell (World.block_lt_of_cell? w _ hw232_0)).trans hw232_0), ((HB.out.cell (World.block_lt_of_cell? w _ hw232_1)).trans hw232_1), ((HB.out.cell (World.block_lt_of_cell? w _ hw232_2)).trans hw232_2)⟩ (fun hHeld => ?_)
          clear hK K
          refine norm_ (a' := ?_) ?_ ?_
          rotate_left
          ·show Act.put _ (some 19) _ = _
           simp only [Act.put, List.setIfInBounds_toArray, List.set_cons_zero, List.set_cons_succ, i64_w, i32_w]
           rfl
          refine pure_ (i := 8) (N := some 20) (v := ?_) (a' := ?_) #[true, true, true, true, true, true, true, true, true, false, true, true, true, true, true, false, false, false, false] rfl rfl (any_of HT_.out (by kernel_rfl)) (fun _ _ _ h => h) (Or.inl ⟨by rfl, ?_⟩) ?_ ?_
          rotate_left
          ·intro w'
           go_simp
           with_reducible rfl
          rotate_left
          ·simp only [Act.put, List.setIfInBounds_toArray, List.set_cons_zero, List.set_cons_succ, i64_w, i32_w]
           rfl
          refine pure_ (i := 9) (N := some 21) (v := ?_) (a' := ?_) #[true, true, true, true, true, true, true, true, true, true, true, true, true, true, true, false, false, false, false] rfl rfl (any_of HT_.out (by kernel_rfl)) (fun _ _ _ h => h) (Or.inl ⟨by rfl, ?_⟩) ?_ ?_
          rotate_left
          ·intro w'
           go_simp
           with_reducible rfl
          rotate_left
          ·simp only [Act.put, List.setIfInBounds_toArray, List.set_cons_zero, List.set_cons_succ, i64_w, i32_w]
           rfl
          refine one_ (i := 15) (N := some 27) #[true, true, true, true, true, true, true, true, true, true, true, true, true, true, true, true, false, false, false] rfl rfl (one_of HT_.out (by kernel_rfl)) (by decide) (fun K hK => ?_)
          refine goes_ Try.func31 (by kernel_rfl) rfl #[.int .i64 ((rd_T33 l0 x4_1).f1)] (by rfl) rfl rfl zA ?_
          with_reducible refine (turntableref37_small.calls k1 ((rd_T33 l0 x4_1).f1) t233 _ A8.out).mono ?_
          rintro e w13 ⟨rfl, hb⟩
          refine ⟨_, rfl, ?_⟩
          have n0_ := Aside0.mk (below_step (zB HB.out) hb)
          clear HB
          have HB := n0_
          clear n0_
          (try clear hb)
          (try clear hb2)
          (try clear hk)
          (try clear hi)
          refine hK.out _ _ ⟨((HB.out.cell (World.block_lt_of_cell? w _ hw230_0)).trans hw230_0), ((HB.out.cell (World.block_lt_of_cell? w _ hw230_1)).trans hw230_1), ((HB.out.cell (World.block_lt_of_cell? w _ hw230_2)).trans hw230_2), ((HB.out.cell (World.block_lt_of_cell? w _ hw232_0)).trans hw232_0), ((HB.out.cell (World.block_lt_of_cell? w _ hw232_1)).trans hw232_1), ((HB.out.cell (World.block_lt_of_cell? w _ hw232_2)).trans hw232_2)⟩ (fun hHeld => ?_)
          clear hK K
          refine norm_ (a' := ?_) ?_ ?_
          rotate_left
          ·show Act.put _ (some 27) _ = _
           simp only [Act.put, List.setIfInBounds_toArray, List.set_cons_zero, List.set_cons_succ, i64_w, i32_w]
           rfl
          refine pure_ (i := 16) (N := some 28) (v := ?_) (a' := ?_) #[true, true, true, true, true, true, true, true, true, true, true, true, true, true, true, true, true, false, false] rfl rfl (any_of HT_.out (by kernel_rfl)) (fun _ _ _ h => h) (Or.inl ⟨by rfl, ?_⟩) ?_ ?_
          rotate_left
          ·intro w'
           go_simp
           with_reducible rfl
          rotate_left
          ·simp only [Act.put, List.setIfInBounds_toArray, List.set_cons_zero, List.set_cons_succ, i64_w, i32_w]
           rfl
          refine pure_ (i := 17) (N := some 29) (v := ?_) (a' := ?_) #[true, true, true, true, true, true, true, true, true, true, true, true, true, true, true, true, true, true, false] rfl rfl (any_of HT_.out (by kernel_rfl)) (fun _ _ _ h => h) (Or.inl ⟨by rfl, ?_⟩) ?_ ?_
          rotate_left
          ·intro w'
           go_simp
           with_reducible rfl
          rotate_left
          ·simp only [Act.put, List.setIfInBounds_toArray, List.set_cons_zero, List.set_cons_succ, i64_w, i32_w]
           rfl
          refine pure_ (i := 18) (N := some 3) (v := ?_) (a' := ?_) #[true, true, true, true, true, true, true, true, true, true, true, true, true, true, true, true, true, true, true] rfl rfl (any_of HT_.out (by kernel_rfl)) (fun _ _ _ h => h) (Or.inl ⟨by rfl, ?_⟩) ?_ ?_
          rotate_left
          ·intro w'
           go_simp
           with_reducible rfl
          rotate_left
          ·simp only [Act.put, List.setIfInBounds_toArray, List.set_cons_zero, List.set_cons_succ, i64_w, i32_w]
           rfl
          refine done_ (done_of HT_.out (by kernel_rfl)) ?_
          try go_wp2
          go_loopg [3, 5] k1 (fun kq v3 v5 w' => ∃ (x3_2 : ByteArray) (x5_2 : Int), v3 = .string x3_2 ∧ v5 = .int .i64 x5_2 ∧ Aside0 (turntableref37_Text.l1 kq l0 x3_2 x4_1 x5_2 = some r) ∧ Aside0 (kq ≤ k1) ∧ Aside0 (Below w.heap.size w w'))
          case atStart => exact ⟨(((((x3_1 ++ (⟨#[98, 111, 100, 121, 32]⟩ : ByteArray)) ++ t231) ++ (⟨#[32]⟩ : ByteArray)) ++ t233) ++ (⟨#[32, 123, 10]⟩ : ByteArray)), (0), (by first | rfl | (simp; done) | (simp [*]; done)), (by first | rfl | (simp; done) | (simp [*]; done)), H', ⟨Nat.le_refl _⟩, ⟨zB HB.out⟩⟩
          case round =>
           clear H'
           try clear c1
           try clear c2
           try clear c2b0
           try clear p2
           try clear q2
           try clear hx2
           try clear c3
           try clear c3b0
           try clear c3b1
           try clear c3b2
           try clear c4
           try clear c4b0
           try clear c6
           try clear c6b0
           try clear c6b1
           try clear c6b2
           try clear c7
           try clear c7b0
           try clear c7b1
           try clear c7b2
           try clear c9
           try clear c9b0
           try clear c9b1
           try clear c9b2
           try clear c10
           try clear c10b0
           try clear c10b1
           try clear c10b2
           try clear hx230_0
           try clear hx230_1
           try clear hx230_2
           try clear hx232_0
           try clear hx232_1
           try clear hx232_2
           try clear p230
           try clear p232
           try clear q230
           try clear q232
           obtain ⟨x3_2, x5_2, rfl, rfl, HA, HK2, HB⟩ := hrel
           cases gk with
           | zero => exact absurd HA.out (by simp [turntableref37_Text.l1])
           | succ k2 =>
            have H := HA.out
            clear HA
            simp only [turntableref37_Text.l1] at H
            by_cases c14 : 0 ≤ x4_1
            ·rw [if_pos c14] at H
             have c14b0 : decide (0 ≤ x4_1) = true := decide_eq_true c14
             clear c14
             by_cases c15 : x4_1 < (l0.length : Int)
             ·rw [if_pos c15] at H
              have c15b0 : decide (x4_1 < (l0.length : Int)) = true := decide_eq_true c15
              clear c15
              by_cases c16 : x5_2 < (((rd_T33 l0 x4_1).f2).length : Int)
              ·rw [if_pos c16] at H
               have c16b0 : decide (x5_2 < (((rd_T33 l0 x4_1).f2).length : Int)) = true := decide_eq_true c16
               clear c16
               by_cases c17 : x3_2.size + 2 ≤ 9223372036854775807
               ·rw [if_pos c17] at H
                have c17b0 := eq_true c17
                have c17b1 : decide (x3_2.size + 2 ≤ 9223372036854775807) = true := decide_eq_true c17
                try have c17b2 : (9223372036854775807 < x3_2.size + 2) = False := eq_false (Nat.not_lt.2 c17)
                by_cases c18 : 0 ≤ x5_2
                ·rw [if_pos c18] at H
                 have c18b0 : decide (0 ≤ x5_2) = true := decide_eq_true c18
                 clear c18
                 replace H := Option.bind_eq_some_iff.mp H
                 obtain ⟨t237, A190, H⟩ := H
                 replace H : (if (x3_2 ++ (⟨#[32, 32]⟩ : ByteArray)).size + t237.size ≤ 9223372036854775807 then (if ((x3_2 ++ (⟨#[32, 32]⟩ : ByteArray)) ++ t237).size + 1 ≤ 9223372036854775807 then (turntableref37_Text.l1 k2 l0 (((x3_2 ++ (⟨#[32, 32]⟩ : ByteArray)) ++ t237) ++ (⟨#[10]⟩ : ByteArray)) x4_1 (wrap64 (x5_2 + 1))) else (none)) else (none)) = some r := H
                 have A19 := Aside0.mk A190
                 clear A190
                 by_cases c20 : (x3_2 ++ (⟨#[32, 32]⟩ : ByteArray)).size + t237.size ≤ 9223372036854775807
                 ·rw [if_pos c20] at H
                  have c20b0 := eq_true c20
                  have c20b1 : decide ((x3_2 ++ (⟨#[32, 32]⟩ : ByteArray)).size + t237.size ≤ 9223372036854775807) = true := decide_eq_true c20
                  try have c20b2 : (9223372036854775807 < (x3_2 ++ (⟨#[32, 32]⟩ : ByteArray)).size + t237.size) = False := eq_false (Nat.not_lt.2 c20)
                  try (have c20b3 := c20b2; simp only [ByteArray.size_append, show ((⟨#[32, 32]⟩ : ByteArray)).size = 2 from rfl] at c20b3)
                  by_cases c21 : ((x3_2 ++ (⟨#[32, 32]⟩ : ByteArray)) ++ t237).size + 1 ≤ 9223372036854775807
                  ·rw [if_pos c21] at H
                   have c21b0 := eq_true c21
                   have c21b1 : decide (((x3_2 ++ (⟨#[32, 32]⟩ : ByteArray)) ++ t237).size + 1 ≤ 9223372036854775807) = true := decide_eq_true c21
                   try have c21b2 : (9223372036854775807 < ((x3_2 ++ (⟨#[32, 32]⟩ : ByteArray)) ++ t237).size + 1) = False := eq_false (Nat.not_lt.2 c21)
                   try (have c21b3 := c21b2; simp only [ByteArray.size_append, show ((⟨#[32, 32]⟩ : ByteArray)).size = 2 from rfl] at c21b3)
                   have H' := Aside0.mk H
                   clear H
                   have p234 : 0 ≤ (x4_1 : Int) := of_decide_eq_true zS
                   have q234 : x4_1 < (l0.length : Int) := of_decide_eq_true zS
                   obtain ⟨ad234, A234_0, c234_0, A234_2, c234_2, e234, hx234_0, hx234_1, hx234_2, hl234_0, hi234_0, hl234_2, hi234_2⟩ := at_T33 HR0.out x4_1 p234 q234
                   obtain rfl : ad230 = ad234 := (by injection e234)
                   replace hx234_0 := (HB.out.cell (World.block_lt_of_cell? w _ hx234_0)).trans hx234_0
                   replace hx234_1 := (HB.out.cell (World.block_lt_of_cell? w _ hx234_1)).trans hx234_1
                   replace hx234_2 := (HB.out.cell (World.block_lt_of_cell? w _ hx234_2)).trans hx234_2
                   have HR234_0 := Aside0.mk hi234_0
                   have HC234_0 := Aside0.mk hl234_0
                   clear hi234_0 hl234_0
                   have HR234_2 := Aside0.mk hi234_2
                   have HC234_2 := Aside0.mk hl234_2
                   clear hi234_2 hl234_2
                   replace p234 := eq_true p234
                   replace q234 := eq_true q234
                   have p235 : 0 ≤ (x4_1 : Int) := of_decide_eq_true zS
                   have q235 : x4_1 < (l0.length : Int) := of_decide_eq_true zS
                   obtain ⟨ad235, A235_0, c235_0, A235_2, c235_2, e235, hx235_0, hx235_1, hx235_2, hl235_0, hi235_0, hl235_2, hi235_2⟩ := at_T33 HR0.out x4_1 p235 q235
                   obtain rfl : ad230 = ad235 := (by injection e235)
                   replace hx235_0 := (HB.out.cell (World.block_lt_of_cell? w _ hx235_0)).trans hx235_0
                   replace hx235_1 := (HB.out.cell (World.block_lt_of_cell? w _ hx235_1)).trans hx235_1
                   replace hx235_2 := (HB.out.cell (World.block_lt_of_cell? w _ hx235_2)).trans hx235_2
                   have HR235_0 := Aside0.mk hi235_0
                   have HC235_0 := Aside0.mk hl235_0
                   clear hi235_0 hl235_0
                   have HR235_2 := Aside0.mk hi235_2
                   have HC235_2 := Aside0.mk hl235_2
                   clear hi235_2 hl235_2
                   replace p235 := eq_true p235
                   replace q235 := eq_true q235
                   have ea_ := Option.some.inj (hx234_0.symm.trans hx235_0)
                   injection ea_ with ea_ en_ ec_
                   subst ea_
                   subst ec_
                   clear en_
                   have ea_ := Option.some.inj (hx234_2.symm.trans hx235_2)
                   injection ea_ with ea_ en_ ec_
                   subst ea_
                   subst ec_
                   clear en_
                   have p236 : 0 ≤ (x5_2 : Int) := of_decide_eq_true zS
                   have q236 : x5_2 < (((rd_T33 l0 x4_1).f2).length : Int) := of_decide_eq_true zS
                   obtain ⟨ad236, A236_5, c236_5, e236, hx236_0, hx236_1, hx236_2, hx236_3, hx236_4, hx236_5, hx236_6, hx236_7, hl236_5, hi236_5⟩ := at_T37 HR235_2.out x5_2 p236 q236
                   cases e236
                   replace hx236_0 := (HB.out.cell (World.block_lt_of_cell? w _ hx236_0)).trans hx236_0
                   replace hx236_1 := (HB.out.cell (World.block_lt_of_cell? w _ hx236_1)).trans hx236_1
                   replace hx236_2 := (HB.out.cell (World.block_lt_of_cell? w _ hx236_2)).trans hx236_2
                   replace hx236_3 := (HB.out.cell (World.block_lt_of_cell? w _ hx236_3)).trans hx236_3
                   replace hx236_4 := (HB.out.cell (World.block_lt_of_cell? w _ hx236_4)).trans hx236_4
                   replace hx236_5 := (HB.out.cell (World.block_lt_of_cell? w _ hx236_5)).trans hx236_5
                   replace hx236_6 := (HB.out.cell (World.block_lt_of_cell? w _ hx236_6)).trans hx236_6
                   replace hx236_7 := (HB.out.cell (World.block_lt_of_cell? w _ hx236_7)).trans hx236_7
                   have HR236_5 := Aside0.mk hi236_5
                   have HC236_5 := Aside0.mk hl236_5
                   clear hi236_5 hl236_5
                   replace p236 := eq_true p236
                   replace q236 := eq_true q236
                   go_wp2_with (first | ((with_reducible refine gate_callee (f := 13) rfl ?_); refine goesL_ (some 50) rfl rfl Try.func13 (by kernel_rfl) rfl #[.agg #[.int .i64 ((rd_T37 ((rd_T33 l0 x4_1).f2) x5_2).f0), .int .i64 ((rd_T37 ((rd_T33 l0 x4_1).f2) x5_2).f1), .int .i64 ((rd_T37 ((rd_T33 l0 x4_1).f2) x5_2).f2), .int .i64 ((rd_T37 ((rd_T33 l0 x4_1).f2) x5_2).f3), .int .i64 ((rd_T37 ((rd_T33 l0 x4_1).f2) x5_2).f4), .slice A236_5 ((rd_T37 ((rd_T33 l0 x4_1).f2) x5_2).f5).length c236_5, .int .i64 ((rd_T37 ((rd_T33 l0 x4_1).f2) x5_2).f6.f0), .int .i64 ((rd_T37 ((rd_T33 l0 x4_1).f2) x5_2).f6.f1)]] rfl zA ?_; (with_reducible refine (turntableref37_Inst.calls k2 ((rd_T37 ((rd_T33 l0 x4_1).f2) x5_2).f0) ((rd_T37 ((rd_T33 l0 x4_1).f2) x5_2).f1) ((rd_T37 ((rd_T33 l0 x4_1).f2) x5_2).f2) ((rd_T37 ((rd_T33 l0 x4_1).f2) x5_2).f3) ((rd_T37 ((rd_T33 l0 x4_1).f2) x5_2).f4) _ _ ((rd_T37 ((rd_T33 l0 x4_1).f2) x5_2).f5) ((rd_T37 ((rd_T33 l0 x4_1).f2) x5_2).f6.f0) ((rd_T37 ((rd_T33 l0 x4_1).f2) x5_2).f6.f1) t237 _ ?side1 ?side2 A19.out).mono ?_); (case side1 => repeat (first | exact (Kd.C_below HR236_5.out HB.out) | (with_reducible refine Kd.C_alloc ?_ _) | (with_reducible refine Kd.C_drewN ?_ _) | (with_reducible refine Kd.C_drew ?_))); (case side2 => exact HC236_5.out); rintro e w22 ⟨rfl, hb⟩; refine ⟨_, rfl, ?_⟩; have n0_ := Aside0.mk (below_step (zB HB.out) hb); clear HB; have HB := n0_; clear n0_; (try clear hb); (try clear hb2); (try clear hk); (try clear hi)))
                   go_roundg k2
                   case measure => have := HK1.out; have := HK2.out; omega
                   case rel => exact ⟨(((x3_2 ++ (⟨#[32, 32]⟩ : ByteArray)) ++ t237) ++ (⟨#[10]⟩ : ByteArray)), (wrap64 (x5_2 + 1)), (by first | rfl | (simp; done) | (simp [*]; done)), (by first | rfl | (simp; done) | (simp [*]; done)), H', ⟨by have := HK1.out; have := HK2.out; omega⟩, ⟨zB HB.out⟩⟩
                  ·rw [if_neg c21] at H
                   exact absurd H (by simp)
                 ·rw [if_neg c20] at H
                  exact absurd H (by simp)
                ·rw [if_neg c18] at H
                 exact absurd H (by simp)
               ·rw [if_neg c17] at H
                exact absurd H (by simp)
              ·rw [if_neg c16] at H
               have c16b0 : decide (x5_2 < (((rd_T33 l0 x4_1).f2).length : Int)) = false := decide_eq_false c16
               clear c16
               by_cases c23 : x3_2.size + 2 ≤ 9223372036854775807
               ·rw [if_pos c23] at H
                have c23b0 := eq_true c23
                have c23b1 : decide (x3_2.size + 2 ≤ 9223372036854775807) = true := decide_eq_true c23
                try have c23b2 : (9223372036854775807 < x3_2.size + 2) = False := eq_false (Nat.not_lt.2 c23)
                have H' := Aside0.mk H
                clear H
                have p234 : 0 ≤ (x4_1 : Int) := of_decide_eq_true zS
                have q234 : x4_1 < (l0.length : Int) := of_decide_eq_true zS
                obtain ⟨ad234, A234_0, c234_0, A234_2, c234_2, e234, hx234_0, hx234_1, hx234_2, hl234_0, hi234_0, hl234_2, hi234_2⟩ := at_T33 HR0.out x4_1 p234 q234
                obtain rfl : ad230 = ad234 := (by injection e234)
                replace hx234_0 := (HB.out.cell (World.block_lt_of_cell? w _ hx234_0)).trans hx234_0
                replace hx234_1 := (HB.out.cell (World.block_lt_of_cell? w _ hx234_1)).trans hx234_1
                replace hx234_2 := (HB.out.cell (World.block_lt_of_cell? w _ hx234_2)).trans hx234_2
                have HR234_0 := Aside0.mk hi234_0
                have HC234_0 := Aside0.mk hl234_0
                clear hi234_0 hl234_0
                have HR234_2 := Aside0.mk hi234_2
                have HC234_2 := Aside0.mk hl234_2
                clear hi234_2 hl234_2
                replace p234 := eq_true p234
                replace q234 := eq_true q234
                go_wp2
                go_roundg k2
                case measure => have := HK1.out; have := HK2.out; omega
                case rel => exact ⟨(x3_2 ++ (⟨#[125, 10]⟩ : ByteArray)), (wrap64 (x4_1 + 1)), (by first | rfl | (simp; done) | (simp [*]; done)), (by first | rfl | (simp; done) | (simp [*]; done)), H', ⟨by have := HK1.out; have := HK2.out; omega⟩, ⟨zB HB.out⟩⟩
               ·rw [if_neg c23] at H
                exact absurd H (by simp)
             ·rw [if_neg c15] at H
              exact absurd H (by simp)
            ·rw [if_neg c14] at H
             exact absurd H (by simp)
         ·rw [if_neg c10] at H
          exact absurd H (by simp)
        ·rw [if_neg c9] at H
         exact absurd H (by simp)
       ·rw [if_neg c7] at H
        exact absurd H (by simp)
      ·rw [if_neg c6] at H
       exact absurd H (by simp)
     ·rw [if_neg c4] at H
      exact absurd H (by simp)
    ·rw [if_neg c3] at H
     exact absurd H (by simp)
   ·rw [if_neg c2] at H
    have c2b0 : decide (x4_1 < (l0.length : Int)) = false := decide_eq_false c2
    clear c2
    obtain rfl := Option.some.inj H
    go_wp2
    go_ret
    exact ⟨zF, zB HB.out⟩
end Go.Proofs.Ytkgjbdbhpohkiaa.PLi
end
