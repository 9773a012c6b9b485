-- PRINTED by a turned copy of the kit's print (patch_print.py); not typed by hand. Lean checks it.
import Derived.Test.YtpjehipemljkpaaPCox0
import Derived.Test.YtpjehipemljkpaaZip
namespace Go.Proofs.Ytpjehipemljkpaa.PCo
open Go.RowKit Go.Proofs.YtpjehipemljkpaaW.PrintWords Go.Proofs.YtpjehipemljkpaaW.PrintLast Go.Proofs.YtpjehipemljkpaaW.PrintMore Go.Proofs.Ytpjehipemljkpaa.Zip
attribute [local go_sem] max2_int min2_int max_two min_two max_three min_three max_four min_four   -- for this text's walks alone
set_option linter.unusedVariables false
set_option linter.unusedSimpArgs false

/-! ### turntableref33_Weight: function 30 -/
mutual
def turntableref33_Weight.l0 : Nat → List (S47) → Int → Int → Int → Option (Int)
 | 0, _, _, _, _ => none
 | k + 1, x0, x1, x5, x6 => if x6 < (x0.length : Int) then (turntableref33_Weight.j1 k x0 x1 x5 x6 (decide (x5 ≤ x1))) else (turntableref33_Weight.j1 k x0 x1 x5 x6 false)
def turntableref33_Weight.j1 : Nat → List (S47) → Int → Int → Int → Bool → Option (Int)
 | 0, _, _, _, _, _ => none
 | k + 1, x0, x1, x5, x6, x18 => if x18 = true then (if 0 ≤ x6 then (if x6 < (x0.length : Int) then (turntableref33_Weight.l1 k x0 x1 (wrap64 (x5 + (((rd_T47 x0 x6).f0).length : Int))) x6 0) else (none)) else (none)) else (some x5)
def turntableref33_Weight.l1 : Nat → List (S47) → Int → Int → Int → Int → Option (Int)
 | 0, _, _, _, _, _ => none
 | k + 1, x0, x1, x5, x6, x7 => if 0 ≤ x6 then (if x6 < (x0.length : Int) then (if x7 < (((rd_T47 x0 x6).f2).length : Int) then (if x5 ≤ x1 then (if 0 ≤ x7 then (turntableref33_Weight.l1 k x0 x1 (wrap64 ((wrap64 (x5 + 1)) + (((rd_T51 ((rd_T47 x0 x6).f2) x7).f5).length : Int))) x6 (wrap64 (x7 + 1))) else (none)) else (turntableref33_Weight.l0 k x0 x1 x5 (wrap64 (x6 + 1)))) else (turntableref33_Weight.l0 k x0 x1 x5 (wrap64 (x6 + 1)))) else (none)) else (none)
end
def turntableref33_Weight.f (k : Nat) (l0 : List (S47)) (a1 : Int) : Option (Int) := turntableref33_Weight.l0 k l0 a1 (l0.length : Int) 0
theorem turntableref33_Weight.mono_l : ∀ k, (∀ y0 y1 y2 y3, LeO (turntableref33_Weight.l0 k y0 y1 y2 y3) (turntableref33_Weight.l0 (k + 1) y0 y1 y2 y3)) ∧ (∀ y0 y1 y2 y3 y4, LeO (turntableref33_Weight.j1 k y0 y1 y2 y3 y4) (turntableref33_Weight.j1 (k + 1) y0 y1 y2 y3 y4)) ∧ (∀ y0 y1 y2 y3 y4, LeO (turntableref33_Weight.l1 k y0 y1 y2 y3 y4) (turntableref33_Weight.l1 (k + 1) y0 y1 y2 y3 y4))
 | 0 => ⟨fun _ _ _ _ r h => by simp [turntableref33_Weight.l0] at h, fun _ _ _ _ _ r h => by simp [turntableref33_Weight.j1] at h, fun _ _ _ _ _ r h => by simp [turntableref33_Weight.l1] at h⟩
 | k + 1 => by
  obtain ⟨ih0, ih1, ih2⟩ := turntableref33_Weight.mono_l k
  refine ⟨?_, ?_, ?_⟩
  ·intro y0 y1 y2 y3
   unfold turntableref33_Weight.l0
   repeat' first
   | (with_reducible exact ih0 _ _ _ _)
   | (with_reducible exact ih1 _ _ _ _ _)
   | (with_reducible exact ih2 _ _ _ _ _)
   | (with_reducible exact LeO.refl _)
   | (with_reducible exact LeO.none _)
   | (with_reducible refine LeO.ite ?_ ?_)
   | (with_reducible refine LeO.bind ?_ (fun _ => ?_))
   | exact ih0 _ _ _ _
   | exact ih1 _ _ _ _ _
   | exact ih2 _ _ _ _ _
   | exact LeO.none _
   | refine LeO.ite ?_ ?_
   | refine LeO.bind ?_ (fun _ => ?_)
  ·intro y0 y1 y2 y3 y4
   unfold turntableref33_Weight.j1
   repeat' first
   | (with_reducible exact ih0 _ _ _ _)
   | (with_reducible exact ih1 _ _ _ _ _)
   | (with_reducible exact ih2 _ _ _ _ _)
   | (with_reducible exact LeO.refl _)
   | (with_reducible exact LeO.none _)
   | (with_reducible refine LeO.ite ?_ ?_)
   | (with_reducible refine LeO.bind ?_ (fun _ => ?_))
   | exact ih0 _ _ _ _
   | exact ih1 _ _ _ _ _
   | exact ih2 _ _ _ _ _
   | exact LeO.none _
   | refine LeO.ite ?_ ?_
   | refine LeO.bind ?_ (fun _ => ?_)
  ·intro y0 y1 y2 y3 y4
   unfold turntableref33_Weight.l1
   repeat' first
   | (with_reducible exact ih0 _ _ _ _)
   | (with_reducible exact ih1 _ _ _ _ _)
   | (with_reducible exact ih2 _ _ _ _ _)
   | (with_reducible exact LeO.refl _)
   | (with_reducible exact LeO.none _)
   | (with_reducible refine LeO.ite ?_ ?_)
   | (with_reducible refine LeO.bind ?_ (fun _ => ?_))
   | exact ih0 _ _ _ _
   | exact ih1 _ _ _ _ _
   | exact ih2 _ _ _ _ _
   | exact LeO.none _
   | refine LeO.ite ?_ ?_
   | refine LeO.bind ?_ (fun _ => ?_)
theorem turntableref33_Weight.mono : ∀ a0 a1 k, LeO (turntableref33_Weight.f k a0 a1) (turntableref33_Weight.f (k + 1) a0 a1) := by
 intro a0 a1 k
 obtain ⟨ih0, ih1, ih2⟩ := turntableref33_Weight.mono_l k
 unfold turntableref33_Weight.f
 repeat' first
   | (with_reducible exact ih0 _ _ _ _)
   | (with_reducible exact ih1 _ _ _ _ _)
   | (with_reducible exact ih2 _ _ _ _ _)
   | (with_reducible exact LeO.refl _)
   | (with_reducible exact LeO.none _)
   | (with_reducible refine LeO.ite ?_ ?_)
   | (with_reducible refine LeO.bind ?_ (fun _ => ?_))
   | exact ih0 _ _ _ _
   | exact ih1 _ _ _ _ _
   | exact ih2 _ _ _ _ _
   | exact LeO.none _
   | refine LeO.ite ?_ ?_
   | refine LeO.bind ?_ (fun _ => ?_)
set_option maxHeartbeats 8000000 in
set_option maxRecDepth 100000 in
theorem turntableref33_Weight.calls (k : Nat) (A0 : Option Addr) (c0 : Nat) (l0 : List (S47)) (a1 : Int) (r : Int) (w : World) (hr0 : Kd.C k47 w A0 l0.length l0) (hc0 : l0.length ≤ c0) (h : turntableref33_Weight.f k l0 a1 = some r) :
  Calls Try.prog 30 #[.slice A0 l0.length c0, .int .i64 a1] w fun e w' => e = .returned (.int .i64 r) ∧ Drawn0 w w' := by
 have HR0 := Aside0.mk hr0
 have HC0 := Aside0.mk hc0
 clear hr0 hc0
 have H : (turntableref33_Weight.l0 k l0 a1 (l0.length : Int) 0) = some r := h
 clear h
 have H' := Aside0.mk H
 clear H
 go_enter Try.func30, Try.ntmps30
 go_wp2
 go_loopg [5, 6] k (fun kq v5 v6 w' => ∃ (x5_1 : Int) (x6_1 : Int), v5 = .int .i64 x5_1 ∧ v6 = .int .i64 x6_1 ∧ Aside0 (turntableref33_Weight.l0 kq l0 a1 x5_1 x6_1 = some r) ∧ Aside0 (kq ≤ k) ∧ Drawn0 w w')
 case atStart => exact ⟨((l0.length : Int)), (0), (by first | rfl | (simp; done) | (simp [*]; done)), (by first | rfl | (simp; done) | (simp [*]; done)), H', ⟨Nat.le_refl _⟩, zQ⟩
 case round =>
  clear H'
  try clear p2
  obtain ⟨x5_1, x6_1, rfl, rfl, HA, HK1, ⟨m1, rfl⟩⟩ := hrel
  cases gk with
  | zero => exact absurd HA.out (by simp [turntableref33_Weight.l0])
  | succ k1 =>
   have H := HA.out
   clear HA
   simp only [turntableref33_Weight.l0] at H
   have HC3 := Aside0.mk H
   clear H
   go_upto_region 3 with (fail)
   go_cut [18] (fun v18 wc => ∃ (kq : Nat) (x18_2 : Bool), v18 = .bool x18_2 ∧ Aside0 (turntableref33_Weight.j1 kq l0 a1 x5_1 x6_1 x18_2 = some r) ∧ Aside0 (kq ≤ k1) ∧ Drawn0 w wc)
   case first =>
    have H := HC3.out
    clear HC3
    by_cases c4 : x6_1 < (l0.length : Int)
    ·rw [if_pos c4] at H
     have c4b0 : decide (x6_1 < (l0.length : Int)) = true := decide_eq_true c4
     clear c4
     (first | rw [c4b0] | (simp only [i64_w, i32_w]; rw [c4b0]) | skip)
     have H' := Aside0.mk H
     clear H
     go_wp2
     go_meet
     case rel => exact ⟨_, (decide (x5_1 ≤ a1)), (by first | rfl | (simp; done) | (simp [*]; done)), H', ⟨by have := HK1.out; first | omega | exact Nat.le_refl _⟩, zQ⟩
    ·rw [if_neg c4] at H
     have c4b0 : decide (x6_1 < (l0.length : Int)) = false := decide_eq_false c4
     clear c4
     (first | rw [c4b0] | (simp only [i64_w, i32_w]; rw [c4b0]) | skip)
     have H' := Aside0.mk H
     clear H
     go_wp2
     go_meet
     case rel => exact ⟨_, (false), (by first | rfl | (simp; done) | (simp [*]; done)), H', ⟨by have := HK1.out; first | omega | exact Nat.le_refl _⟩, zQ⟩
   case rest =>
    clear HC3
    try clear p2
    try clear c3
    try clear c4
    try clear c4b0
    try clear p2
    obtain ⟨kq, x18_2, rfl, HA, HJ2, ⟨mc2, rfl⟩⟩ := hcut
    cases kq with
    | zero => exact absurd HA.out (by simp [turntableref33_Weight.j1])
    | succ kj2 =>
     have H := HA.out
     clear HA
     simp only [turntableref33_Weight.j1] at H
     by_cases c5 : x18_2 = true
     ·subst c5
      have H1 : (if 0 ≤ x6_1 then (if x6_1 < (l0.length : Int) then (turntableref33_Weight.l1 kj2 l0 a1 (wrap64 (x5_1 + (((rd_T47 l0 x6_1).f0).length : Int))) x6_1 0) else (none)) else (none)) = some r := by rw [if_pos rfl] at H; exact H
      clear H
      have H := H1
      clear H1
      by_cases c6 : 0 ≤ x6_1
      ·rw [if_pos c6] at H
       have c6b0 : decide (0 ≤ x6_1) = true := decide_eq_true c6
       clear c6
       by_cases c7 : x6_1 < (l0.length : Int)
       ·rw [if_pos c7] at H
        have c7b0 : decide (x6_1 < (l0.length : Int)) = true := decide_eq_true c7
        clear c7
        have H' := Aside0.mk H
        clear H
        have p101 : 0 ≤ (x6_1 : Int) := of_decide_eq_true zS
        have q101 : x6_1 < (l0.length : Int) := of_decide_eq_true zS
        obtain ⟨ad101, A101_0, c101_0, A101_2, c101_2, e101, hx101_0, hx101_1, hx101_2, hl101_0, hi101_0, hl101_2, hi101_2⟩ := at_T47 HR0.out x6_1 p101 q101
        cases e101
        have HR101_0 := Aside0.mk hi101_0
        have HC101_0 := Aside0.mk hl101_0
        clear hi101_0 hl101_0
        have HR101_2 := Aside0.mk hi101_2
        have HC101_2 := Aside0.mk hl101_2
        clear hi101_2 hl101_2
        replace p101 := eq_true p101
        replace q101 := eq_true q101
        go_wp2
        go_loopg [5, 7] kj2 (fun kq v5 v7 w' => ∃ (x5_3 : Int) (x7_3 : Int), v5 = .int .i64 x5_3 ∧ v7 = .int .i64 x7_3 ∧ Aside0 (turntableref33_Weight.l1 kq l0 a1 x5_3 x6_1 x7_3 = some r) ∧ Aside0 (kq ≤ kj2) ∧ Drawn0 w w')
        case atStart => exact ⟨(wrap64 (x5_1 + (((rd_T47 l0 x6_1).f0).length : Int))), (0), (by first | rfl | (simp; done) | (simp [*]; done)), (by first | rfl | (simp; done) | (simp [*]; done)), H', ⟨Nat.le_refl _⟩, zQ⟩
        case round =>
         clear H'
         try clear c1
         try clear p1
         try clear q1
         try clear hx1
         try clear c2
         try clear p2
         try clear c3
         try clear c4
         try clear c4b0
         try clear c5
         try clear c6
         try clear c6b0
         try clear p6
         try clear c7
         try clear c7b0
         try clear hx101_0
         try clear hx101_1
         try clear hx101_2
         try clear p101
         try clear p2
         try clear q101
         obtain ⟨x5_3, x7_3, rfl, rfl, HA, HK3, ⟨m3, rfl⟩⟩ := hrel
         cases gk with
         | zero => exact absurd HA.out (by simp [turntableref33_Weight.l1])
         | succ k3 =>
          have H := HA.out
          clear HA
          simp only [turntableref33_Weight.l1] at H
          by_cases c8 : 0 ≤ x6_1
          ·rw [if_pos c8] at H
           have c8b0 : decide (0 ≤ x6_1) = true := decide_eq_true c8
           clear c8
           by_cases c9 : x6_1 < (l0.length : Int)
           ·rw [if_pos c9] at H
            have c9b0 : decide (x6_1 < (l0.length : Int)) = true := decide_eq_true c9
            clear c9
            by_cases c10 : x7_3 < (((rd_T47 l0 x6_1).f2).length : Int)
            ·rw [if_pos c10] at H
             have c10b0 : decide (x7_3 < (((rd_T47 l0 x6_1).f2).length : Int)) = true := decide_eq_true c10
             clear c10
             by_cases c11 : x5_3 ≤ a1
             ·rw [if_pos c11] at H
              have c11b0 : decide (x5_3 ≤ a1) = true := decide_eq_true c11
              clear c11
              by_cases c12 : 0 ≤ x7_3
              ·rw [if_pos c12] at H
               have c12b0 : decide (0 ≤ x7_3) = true := decide_eq_true c12
               clear c12
               have H' := Aside0.mk H
               clear H
               have p102 : 0 ≤ (x6_1 : Int) := of_decide_eq_true zS
               have q102 : x6_1 < (l0.length : Int) := of_decide_eq_true zS
               obtain ⟨ad102, A102_0, c102_0, A102_2, c102_2, e102, hx102_0, hx102_1, hx102_2, hl102_0, hi102_0, hl102_2, hi102_2⟩ := at_T47 HR0.out x6_1 p102 q102
               obtain rfl : ad101 = ad102 := (by injection e102)
               have HR102_0 := Aside0.mk hi102_0
               have HC102_0 := Aside0.mk hl102_0
               clear hi102_0 hl102_0
               have HR102_2 := Aside0.mk hi102_2
               have HC102_2 := Aside0.mk hl102_2
               clear hi102_2 hl102_2
               replace p102 := eq_true p102
               replace q102 := eq_true q102
               have p103 : 0 ≤ (x6_1 : Int) := of_decide_eq_true zS
               have q103 : x6_1 < (l0.length : Int) := of_decide_eq_true zS
               obtain ⟨ad103, A103_0, c103_0, A103_2, c103_2, e103, hx103_0, hx103_1, hx103_2, hl103_0, hi103_0, hl103_2, hi103_2⟩ := at_T47 HR0.out x6_1 p103 q103
               obtain rfl : ad101 = ad103 := (by injection e103)
               have HR103_0 := Aside0.mk hi103_0
               have HC103_0 := Aside0.mk hl103_0
               clear hi103_0 hl103_0
               have HR103_2 := Aside0.mk hi103_2
               have HC103_2 := Aside0.mk hl103_2
               clear hi103_2 hl103_2
               replace p103 := eq_true p103
               replace q103 := eq_true q103
               have ea_ := Option.some.inj (hx102_0.symm.trans hx103_0)
               injection ea_ with ea_ en_ ec_
               subst ea_
               subst ec_
               clear en_
               have ea_ := Option.some.inj (hx102_2.symm.trans hx103_2)
               injection ea_ with ea_ en_ ec_
               subst ea_
               subst ec_
               clear en_
               have p104 : 0 ≤ (x7_3 : Int) := of_decide_eq_true zS
               have q104 : x7_3 < (((rd_T47 l0 x6_1).f2).length : Int) := of_decide_eq_true zS
               obtain ⟨ad104, A104_5, c104_5, e104, hx104_0, hx104_1, hx104_2, hx104_3, hx104_4, hx104_5, hx104_6, hx104_7, hl104_5, hi104_5⟩ := at_T51 HR103_2.out x7_3 p104 q104
               cases e104
               have HR104_5 := Aside0.mk hi104_5
               have HC104_5 := Aside0.mk hl104_5
               clear hi104_5 hl104_5
               replace p104 := eq_true p104
               replace q104 := eq_true q104
               go_wp2
               go_roundg k3
               case measure => have := HK1.out; have := HJ2.out; have := HK3.out; omega
               case rel => exact ⟨(wrap64 ((wrap64 (x5_3 + 1)) + (((rd_T51 ((rd_T47 l0 x6_1).f2) x7_3).f5).length : Int))), (wrap64 (x7_3 + 1)), (by first | rfl | (simp; done) | (simp [*]; done)), (by first | rfl | (simp; done) | (simp [*]; done)), H', ⟨by have := HK1.out; have := HJ2.out; have := HK3.out; omega⟩, zQ⟩
              ·rw [if_neg c12] at H
               exact absurd H (by simp)
             ·rw [if_neg c11] at H
              have c11b0 : decide (x5_3 ≤ a1) = false := decide_eq_false c11
              clear c11
              have H' := Aside0.mk H
              clear H
              have p102 : 0 ≤ (x6_1 : Int) := of_decide_eq_true zS
              have q102 : x6_1 < (l0.length : Int) := of_decide_eq_true zS
              obtain ⟨ad102, A102_0, c102_0, A102_2, c102_2, e102, hx102_0, hx102_1, hx102_2, hl102_0, hi102_0, hl102_2, hi102_2⟩ := at_T47 HR0.out x6_1 p102 q102
              obtain rfl : ad101 = ad102 := (by injection e102)
              have HR102_0 := Aside0.mk hi102_0
              have HC102_0 := Aside0.mk hl102_0
              clear hi102_0 hl102_0
              have HR102_2 := Aside0.mk hi102_2
              have HC102_2 := Aside0.mk hl102_2
              clear hi102_2 hl102_2
              replace p102 := eq_true p102
              replace q102 := eq_true q102
              go_wp2
              go_roundg k3
              case measure => have := HK1.out; have := HJ2.out; have := HK3.out; omega
              case rel => exact ⟨(x5_3), (wrap64 (x6_1 + 1)), (by first | rfl | (simp; done) | (simp [*]; done)), (by first | rfl | (simp; done) | (simp [*]; done)), H', ⟨by have := HK1.out; have := HJ2.out; have := HK3.out; omega⟩, zQ⟩
            ·rw [if_neg c10] at H
             have c10b0 : decide (x7_3 < (((rd_T47 l0 x6_1).f2).length : Int)) = false := decide_eq_false c10
             clear c10
             have H' := Aside0.mk H
             clear H
             have p102 : 0 ≤ (x6_1 : Int) := of_decide_eq_true zS
             have q102 : x6_1 < (l0.length : Int) := of_decide_eq_true zS
             obtain ⟨ad102, A102_0, c102_0, A102_2, c102_2, e102, hx102_0, hx102_1, hx102_2, hl102_0, hi102_0, hl102_2, hi102_2⟩ := at_T47 HR0.out x6_1 p102 q102
             obtain rfl : ad101 = ad102 := (by injection e102)
             have HR102_0 := Aside0.mk hi102_0
             have HC102_0 := Aside0.mk hl102_0
             clear hi102_0 hl102_0
             have HR102_2 := Aside0.mk hi102_2
             have HC102_2 := Aside0.mk hl102_2
             clear hi102_2 hl102_2
             replace p102 := eq_true p102
             replace q102 := eq_true q102
             go_wp2
             go_roundg k3
             case measure => have := HK1.out; have := HJ2.out; have := HK3.out; omega
             case rel => exact ⟨(x5_3), (wrap64 (x6_1 + 1)), (by first | rfl | (simp; done) | (simp [*]; done)), (by first | rfl | (simp; done) | (simp [*]; done)), H', ⟨by have := HK1.out; have := HJ2.out; have := HK3.out; omega⟩, zQ⟩
           ·rw [if_neg c9] at H
            exact absurd H (by simp)
          ·rw [if_neg c8] at H
           exact absurd H (by simp)
       ·rw [if_neg c7] at H
        exact absurd H (by simp)
      ·rw [if_neg c6] at H
       exact absurd H (by simp)
     ·replace c5 := Bool.eq_false_iff.mpr c5
      subst c5
      have H1 : (some x5_1) = some r := by rw [if_neg (show ¬ (false = true) by decide)] at H; exact H
      clear H
      have H := H1
      clear H1
      obtain rfl := Option.some.inj H
      go_wp2
      go_ret
      exact ⟨by first | rfl | (simp; done) | (simp [*]; done), zQ⟩

/-! ### turntablelaw33_light: function 11 -/
def turntablelaw33_light.f (k : Nat) (l0 : List (S47)) : Option (Bool) := (turntableref33_Weight.f k l0 400).bind fun t105 => (some (decide (t105 ≤ 400)))
theorem turntablelaw33_light.mono : ∀ a0 k, LeO (turntablelaw33_light.f k a0) (turntablelaw33_light.f (k + 1) a0) := by
 intro a0 k
 unfold turntablelaw33_light.f
 repeat' first
   | (with_reducible exact turntableref33_Weight.mono _ _ _)
   | (with_reducible exact LeO.refl _)
   | (with_reducible exact LeO.none _)
   | (with_reducible refine LeO.ite ?_ ?_)
   | (with_reducible refine LeO.bind ?_ (fun _ => ?_))
   | exact turntableref33_Weight.mono _ _ _
   | exact LeO.none _
   | refine LeO.ite ?_ ?_
   | refine LeO.bind ?_ (fun _ => ?_)
set_option maxHeartbeats 8000000 in
set_option maxRecDepth 100000 in
theorem turntablelaw33_light.calls (k : Nat) (A0 : Option Addr) (c0 : Nat) (l0 : List (S47)) (r : Bool) (w : World) (hr0 : Kd.C k47 w A0 l0.length l0) (hc0 : l0.length ≤ c0) (h : turntablelaw33_light.f k l0 = some r) :
  Calls Try.prog 11 #[.slice A0 l0.length c0] w fun e w' => e = .returned (.bool r) ∧ Drawn0 w w' := by
 have HR0 := Aside0.mk hr0
 have HC0 := Aside0.mk hc0
 clear hr0 hc0
 have H : ((turntableref33_Weight.f k l0 400).bind fun t105 => (some (decide (t105 ≤ 400)))) = some r := h
 clear h
 replace H := Option.bind_eq_some_iff.mp H
 obtain ⟨t105, A20, H⟩ := H
 replace H : (some (decide (t105 ≤ 400))) = some r := H
 have A2 := Aside0.mk A20
 clear A20
 obtain rfl := Option.some.inj H
 go_enter Try.func11, Try.ntmps11
 go_wp2_with (first | ((with_reducible refine gate_callee (f := 30) rfl ?_); refine goesL_ (some 4) rfl rfl Try.func30 (by kernel_rfl) rfl #[.slice A0 l0.length c0, .int .i64 400] rfl zA ?_; (with_reducible refine (turntableref33_Weight.calls k _ _ l0 400 t105 _ ?side1 ?side2 A2.out).mono ?_); (case side1 => repeat (first | exact HR0.out | (with_reducible refine Kd.C_alloc ?_ _) | (with_reducible refine Kd.C_drewN ?_ _) | (with_reducible refine Kd.C_drew ?_))); (case side2 => exact HC0.out); rintro e w' ⟨rfl, ⟨nd, rfl⟩⟩; refine ⟨_, rfl, ?_⟩))
 go_ret
 exact ⟨by first | rfl | (simp; done) | (simp [*]; done), zQ⟩

/-! ### code_ends: function 31 -/
def code_ends.f (a0 : Int) : Option (Bool) := if a0 = 26 then (some true) else (if a0 = 27 then (some true) else (if a0 = 28 then (some true) else (some (a0 == 29))))
set_option maxHeartbeats 8000000 in
set_option maxRecDepth 100000 in
theorem code_ends.calls (a0 : Int) (r : Bool) (w : World) (h : code_ends.f a0 = some r) :
  Calls Try.prog 31 #[.int .i64 a0] w fun e w' => e = .returned (.bool r) ∧ Drawn0 w w' := by
 have H : (if a0 = 26 then (some true) else (if a0 = 27 then (some true) else (if a0 = 28 then (some true) else (some (a0 == 29))))) = some r := h
 clear h
 by_cases c2 : a0 = 26
 ·rw [if_pos c2] at H
  have c2b0 : (a0 == 26) = true := beq_iff_eq.mpr c2
  have c2b1 : (a0 != 26) = false := bne_eq_false_iff_eq.mpr c2
  clear c2
  obtain rfl := Option.some.inj H
  go_enter Try.func31, Try.ntmps31
  go_wp2
  go_ret
  exact ⟨by first | rfl | (simp; done) | (simp [*]; done), zQ⟩
 ·rw [if_neg c2] at H
  have c2b0 : (a0 == 26) = false := beq_eq_false_iff_ne.mpr c2
  have c2b1 : (a0 != 26) = true := bne_iff_ne.mpr c2
  by_cases c3 : a0 = 27
  ·rw [if_pos c3] at H
   have c3b0 : (a0 == 27) = true := beq_iff_eq.mpr c3
   have c3b1 : (a0 != 27) = false := bne_eq_false_iff_eq.mpr c3
   clear c3
   obtain rfl := Option.some.inj H
   go_enter Try.func31, Try.ntmps31
   go_wp2
   go_ret
   exact ⟨by first | rfl | (simp; done) | (simp [*]; done), zQ⟩
  ·rw [if_neg c3] at H
   have c3b0 : (a0 == 27) = false := beq_eq_false_iff_ne.mpr c3
   have c3b1 : (a0 != 27) = true := bne_iff_ne.mpr c3
   by_cases c4 : a0 = 28
   ·rw [if_pos c4] at H
    have c4b0 : (a0 == 28) = true := beq_iff_eq.mpr c4
    have c4b1 : (a0 != 28) = false := bne_eq_false_iff_eq.mpr c4
    clear c4
    obtain rfl := Option.some.inj H
    go_enter Try.func31, Try.ntmps31
    go_wp2
    go_ret
    exact ⟨by first | rfl | (simp; done) | (simp [*]; done), zQ⟩
   ·rw [if_neg c4] at H
    have c4b0 : (a0 == 28) = false := beq_eq_false_iff_ne.mpr c4
    have c4b1 : (a0 != 28) = true := bne_iff_ne.mpr c4
    obtain rfl := Option.some.inj H
    go_enter Try.func31, Try.ntmps31
    go_wp2
    go_ret
    exact ⟨by first | rfl | (simp; done) | (simp [*]; done), zQ⟩

-- NOT PRINTED: function 67 (slices_IndexFunc_int_int)

-- NOT PRINTED: function 32 (slices_ContainsFunc_int_int)

end Go.Proofs.Ytpjehipemljkpaa.PCo
