import Derived.Test.YtkgjbdbhpohkiaaMr2
import Derived.Test.YtkgjbdbhpohkiaaMr17
import Derived.Test.YtkgjbdbhpohkiaaMr26
import Derived.Test.YtkgjbdbhpohkiaaMr5
-- from YtkgjbdbhpohkiaaPLix3
section
namespace Go.Proofs.Ytkgjbdbhpohkiaa.PLi
open Go.RowKit Go.Proofs.YtkgjbdbhpohkiaaW.PrintWords Go.Proofs.YtkgjbdbhpohkiaaW.PrintLast Go.Proofs.YtkgjbdbhpohkiaaW.PrintMore Go.Proofs.Ytkgjbdbhpohkiaa.Zip
attribute [local go_sem] max2_int min2_int max_two min_two max_three min_three max_four min_four   -- for this text's walks alone
set_option linter.unusedVariables false
set_option linter.unusedSimpArgs false
mutual
def r33_one.j0 : Nat → Int → Int → Bool → List Int → Int → List (S37) → Option (Int)
 | 0, _, _, _, _, _, _ => none
 | k + 1, x1, x5, x27, x109000, x109001, x109002 => if x27 = true then (some 6) else (if x5 = 0 then (r33_one.j1 k x1 x5 true x109000 x109001 x109002) else (if 0 ≤ (wrap64 (x5 - 1)) then (if (wrap64 (x5 - 1)) < (x109002.length : Int) then (if ((rd_T37 x109002 (wrap64 (x5 - 1))).f0) < 26 then (r33_one.j1 k x1 x5 true x109000 x109001 x109002) else (r33_one.j1 k x1 x5 (decide (((rd_T37 x109002 (wrap64 (x5 - 1))).f0) > 29)) x109000 x109001 x109002)) else (none)) else (none)))
def r33_one.j1 : Nat → Int → Int → Bool → List Int → Int → List (S37) → Option (Int)
 | 0, _, _, _, _, _, _ => none
 | k + 1, x1, x5, x49, x109000, x109001, x109002 => if x49 = true then (some 15) else ((r33_all.f k x109000 x109001).bind fun t111 => (if t111 = true then (r33_one.l0 k x1 x5 0 x109000 x109001 x109002) else (some 8)))
def r33_one.l0 : Nat → Int → Int → Int → List Int → Int → List (S37) → Option (Int)
 | 0, _, _, _, _, _, _ => none
 | k + 1, x1, x5, x6, x109000, x109001, x109002 => if x6 < x5 then (if 0 ≤ x6 then (if x6 < (x109002.length : Int) then ((r33_inst.f ((rd_T37 x109002 x6).f0) ((rd_T37 x109002 x6).f1) ((rd_T37 x109002 x6).f2) ((rd_T37 x109002 x6).f3) ((rd_T37 x109002 x6).f4) ((rd_T37 x109002 x6).f5) ((rd_T37 x109002 x6).f6.f0) ((rd_T37 x109002 x6).f6.f1) x109001 x5 x1).bind fun t113 => (if t113 = true then (r33_one.l0 k x1 x5 (wrap64 (x6 + 1)) x109000 x109001 x109002) else (some 2))) else (none)) else (none)) else (some 0)
end
def r33_one.f (k : Nat) (l0_0 : List Int) (a0_1 : Int) (l0_2 : List (S37)) (a1 : Int) : Option (Int) := if a0_1 < 1 then (r33_one.j0 k a1 (l0_2.length : Int) true l0_0 a0_1 l0_2) else (if a0_1 > 4096 then (r33_one.j0 k a1 (l0_2.length : Int) true l0_0 a0_1 l0_2) else (if (l0_0.length : Int) > 8 then (r33_one.j0 k a1 (l0_2.length : Int) true l0_0 a0_1 l0_2) else (r33_one.j0 k a1 (l0_2.length : Int) (decide ((l0_2.length : Int) > 65536)) l0_0 a0_1 l0_2)))
def r33_one.T11 : Bool × List (List Nat × List Nat) := (true, [([], []), ([0], [0]), ([], []), ([1, 2], [1, 2]), ([3], [3]), ([], []), ([5], [5]), ([], []), ([], []), ([4, 6, 7, 8], [4, 6, 7, 8]), ([9], [9])])
def r33_one.B11 : List Nat := [0, 1, 0, 7, 15, 0, 32, 0, 0, 511, 1023]
theorem r33_one.tab11 : rtab .any (opsOf Try.f20 11) = r33_one.T11 := by kernel_rfl
theorem r33_one.bits11 : waitsOk r33_one.T11.2 r33_one.B11 = true := by kernel_rfl
set_option maxHeartbeats 8000000 in
set_option maxRecDepth 100000 in
theorem r33_one.calls (k : Nat) (A0_0 : Option Addr) (c0_0 : Nat) (l0_0 : List Int) (a0_1 : Int) (A0_2 : Option Addr) (c0_2 : Nat) (l0_2 : List (S37)) (a1 : Int) (r : Int) (w : World) (hr0_0 : Kd.C (Kd.int .i64) w A0_0 l0_0.length l0_0) (hc0_0 : l0_0.length ≤ c0_0) (hr0_2 : Kd.C k37 w A0_2 l0_2.length l0_2) (hc0_2 : l0_2.length ≤ c0_2) (h : r33_one.f k l0_0 a0_1 l0_2 a1 = some r) :
  Calls Try.prog 20 #[.agg #[.slice A0_0 l0_0.length c0_0, .int .i64 a0_1, .slice A0_2 l0_2.length c0_2], .int .i64 a1] w fun e w' => e = .returned (.int .i64 r) ∧ Below w.heap.size w w' := by
 have hu33 := Try.underlying33
 have hu37 := Try.underlying37
 have HR0_0 := Aside0.mk hr0_0
 have HC0_0 := Aside0.mk hc0_0
 clear hr0_0 hc0_0
 have HR0_2 := Aside0.mk hr0_2
 have HC0_2 := Aside0.mk hc0_2
 clear hr0_2 hc0_2
 have HB := Aside0.mk (Below.refl w.heap.size w)
 have H : (if a0_1 < 1 then (r33_one.j0 k a1 (l0_2.length : Int) true l0_0 a0_1 l0_2) else (if a0_1 > 4096 then (r33_one.j0 k a1 (l0_2.length : Int) true l0_0 a0_1 l0_2) else (if (l0_0.length : Int) > 8 then (r33_one.j0 k a1 (l0_2.length : Int) true l0_0 a0_1 l0_2) else (r33_one.j0 k a1 (l0_2.length : Int) (decide ((l0_2.length : Int) > 65536)) l0_0 a0_1 l0_2)))) = some r := h
 clear h
 have HC3 := Aside0.mk H
 clear H
 go_enter Try.func20, Try.ntmps20
 go_upto_region 2 with (first | ((with_reducible refine gate_dst (N := 2) rfl ?_); (try (refine gate_guard (by rfl) ?_; dsimp only)); refine box_event ?hg (N := 2) ?hd (cs := #[.slice A0_0 l0_0.length c0_0, .int .i64 a0_1, .slice A0_2 l0_2.length c0_2]) (t := 33) ?hr ?_; (case hd => rfl); (case hg => rfl); (case hr => first | (go_simp; done) | (go_simp; rfl)); intro gb108 hg w4 hbox hb; have n0_ := Aside0.mk (below_step (zB HB.out) hb); have n1_ := Aside0.mk (hbox); have n2_ := Aside0.mk ((by rw [hg]; exact (below_size (zB HB.out)) : w.heap.size ≤ gb108)); have n3_ := Aside0.mk ((by rw [hg]; exact (below_size (zB HB.out)) : w.heap.size ≤ gb108)); clear HB; have HB := n0_; have BK108 := n1_; have GW108 := n2_; have GE108 := n3_; clear n0_ n1_ n2_ n3_; clear hb hbox hg; have hcz5_0 : w4.cell? ⟨gb108, 0, none⟩ = some (.slice A0_0 l0_0.length c0_0) := (blk_cell BK108.out 0).trans rfl; have hcz5_1 : w4.cell? ⟨gb108, 1, none⟩ = some (.int .i64 a0_1) := (blk_cell BK108.out 1).trans rfl; have hcz5_2 : w4.cell? ⟨gb108, 2, none⟩ = some (.slice A0_2 l0_2.length c0_2) := (blk_cell BK108.out 2).trans rfl; have hfz5_0 := blk_frozen BK108.out 0; have hfz5_1 := blk_frozen BK108.out 1; have hfz5_2 := blk_frozen BK108.out 2))
 (try simp only [Act.put, List.setIfInBounds_toArray, List.set_cons_zero, List.set_cons_succ])
 go_cut [27] (fun v27 wc => ∃ (kq : Nat) (x27_2 : Bool), v27 = .bool x27_2 ∧ Aside0 (r33_one.j0 kq a1 (l0_2.length : Int) x27_2 l0_0 a0_1 l0_2 = some r) ∧ Aside0 (kq ≤ k) ∧ Aside0 (wc.heap[gb108]? = some (.cells #[(.slice A0_0 l0_0.length c0_0), .int .i64 a0_1, (.slice A0_2 l0_2.length c0_2)] 33 (0, 0))) ∧ Aside0 (Below w.heap.size w wc))
 case first =>
  have H := HC3.out
  clear HC3
  by_cases c6 : a0_1 < 1
  ·rw [if_pos c6] at H
   have c6b0 : decide (a0_1 < 1) = true := decide_eq_true c6
   clear c6
   (first | rw [c6b0] | (simp only [i64_w, i32_w]; rw [c6b0]) | skip)
   have H' := Aside0.mk H
   clear H
   have hcz7_0 : w4.cell? ⟨gb108, 0, none⟩ = some (.slice A0_0 l0_0.length c0_0) := (blk_cell BK108.out 0).trans rfl
   have hcz7_1 : w4.cell? ⟨gb108, 1, none⟩ = some (.int .i64 a0_1) := (blk_cell BK108.out 1).trans rfl
   have hcz7_2 : w4.cell? ⟨gb108, 2, none⟩ = some (.slice A0_2 l0_2.length c0_2) := (blk_cell BK108.out 2).trans rfl
   have hfz7_0 := blk_frozen BK108.out 0
   have hfz7_1 := blk_frozen BK108.out 1
   have hfz7_2 := blk_frozen BK108.out 2
   go_wp2
   go_meet
   case rel => exact ⟨_, (true), (by first | rfl | (simp; done) | (simp [*]; done)), H', ⟨by first | omega | exact Nat.le_refl _⟩, ⟨zK BK108.out⟩, ⟨zC HB.out GE108.out⟩⟩
  ·rw [if_neg c6] at H
   have c6b0 : decide (a0_1 < 1) = false := decide_eq_false c6
   clear c6
   (first | rw [c6b0] | (simp only [i64_w, i32_w]; rw [c6b0]) | skip)
   by_cases c8 : a0_1 > 4096
   ·rw [if_pos c8] at H
    have c8b0 : decide (4096 < a0_1) = true := decide_eq_true c8
    clear c8
    have H' := Aside0.mk H
    clear H
    have hcz9_0 : w4.cell? ⟨gb108, 0, none⟩ = some (.slice A0_0 l0_0.length c0_0) := (blk_cell BK108.out 0).trans rfl
    have hcz9_1 : w4.cell? ⟨gb108, 1, none⟩ = some (.int .i64 a0_1) := (blk_cell BK108.out 1).trans rfl
    have hcz9_2 : w4.cell? ⟨gb108, 2, none⟩ = some (.slice A0_2 l0_2.length c0_2) := (blk_cell BK108.out 2).trans rfl
    have hfz9_0 := blk_frozen BK108.out 0
    have hfz9_1 := blk_frozen BK108.out 1
    have hfz9_2 := blk_frozen BK108.out 2
    go_wp2
    go_meet
    case rel => exact ⟨_, (true), (by first | rfl | (simp; done) | (simp [*]; done)), H', ⟨by first | omega | exact Nat.le_refl _⟩, ⟨zK BK108.out⟩, ⟨zC HB.out GE108.out⟩⟩
   ·rw [if_neg c8] at H
    have c8b0 : decide (4096 < a0_1) = false := decide_eq_false c8
    clear c8
    by_cases c10 : (l0_0.length : Int) > 8
    ·rw [if_pos c10] at H
     have c10b0 : decide (8 < (l0_0.length : Int)) = true := decide_eq_true c10
     have c10b1 : decide (8 < l0_0.length) = true := decide_eq_true (by omega)
     clear c10
     have H' := Aside0.mk H
     clear H
     have hcz11_0 : w4.cell? ⟨gb108, 0, none⟩ = some (.slice A0_0 l0_0.length c0_0) := (blk_cell BK108.out 0).trans rfl
     have hcz11_1 : w4.cell? ⟨gb108, 1, none⟩ = some (.int .i64 a0_1) := (blk_cell BK108.out 1).trans rfl
     have hcz11_2 : w4.cell? ⟨gb108, 2, none⟩ = some (.slice A0_2 l0_2.length c0_2) := (blk_cell BK108.out 2).trans rfl
     have hfz11_0 := blk_frozen BK108.out 0
     have hfz11_1 := blk_frozen BK108.out 1
     have hfz11_2 := blk_frozen BK108.out 2
     go_wp2
     go_meet
     case rel => exact ⟨_, (true), (by first | rfl | (simp; done) | (simp [*]; done)), H', ⟨by first | omega | exact Nat.le_refl _⟩, ⟨zK BK108.out⟩, ⟨zC HB.out GE108.out⟩⟩
    ·rw [if_neg c10] at H
     have c10b0 : decide (8 < (l0_0.length : Int)) = false := decide_eq_false c10
     have c10b1 : decide (8 < l0_0.length) = false := decide_eq_false (by omega)
     clear c10
     have H' := Aside0.mk H
     clear H
     have hcz12_0 : w4.cell? ⟨gb108, 0, none⟩ = some (.slice A0_0 l0_0.length c0_0) := (blk_cell BK108.out 0).trans rfl
     have hcz12_1 : w4.cell? ⟨gb108, 1, none⟩ = some (.int .i64 a0_1) := (blk_cell BK108.out 1).trans rfl
     have hcz12_2 : w4.cell? ⟨gb108, 2, none⟩ = some (.slice A0_2 l0_2.length c0_2) := (blk_cell BK108.out 2).trans rfl
     have hfz12_0 := blk_frozen BK108.out 0
     have hfz12_1 := blk_frozen BK108.out 1
     have hfz12_2 := blk_frozen BK108.out 2
     go_wp2
     go_meet
     case rel => exact ⟨_, (decide ((l0_2.length : Int) > 65536)), (by first | rfl | (simp; done) | (simp [*]; done)), H', ⟨by first | omega | exact Nat.le_refl _⟩, ⟨zK BK108.out⟩, ⟨zC HB.out GE108.out⟩⟩
 case rest =>
  clear HC3
  try clear c1
  try clear c2
  try clear p2
  try clear c6
  try clear c6b0
  try clear c8
  try clear c8b0
  try clear c10
  try clear c10b0
  try clear c10b1
  try clear hcz11_0
  try clear hcz11_1
  try clear hcz11_2
  try clear hcz12_0
  try clear hcz12_1
  try clear hcz12_2
  try clear hcz5_0
  try clear hcz5_1
  try clear hcz5_2
  try clear hcz7_0
  try clear hcz7_1
  try clear hcz7_2
  try clear hcz9_0
  try clear hcz9_1
  try clear hcz9_2
  try clear hfz11_0
  try clear hfz11_1
  try clear hfz11_2
  try clear hfz12_0
  try clear hfz12_1
  try clear hfz12_2
  try clear hfz5_0
  try clear hfz5_1
  try clear hfz5_2
  try clear hfz7_0
  try clear hfz7_1
  try clear hfz7_2
  try clear hfz9_0
  try clear hfz9_1
  try clear hfz9_2
  obtain ⟨kq, x27_2, rfl, HA, HJ2, BK108, HB⟩ := hcut
  cases kq with
  | zero => exact absurd HA.out (by simp [r33_one.j0])
  | succ kj2 =>
   have H := HA.out
   clear HA
   simp only [r33_one.j0] at H
   by_cases c13 : x27_2 = true
   ·subst c13
    have H1 : (some 6) = some r := by rw [if_pos rfl] at H; exact H
    clear H
    have H := H1
    clear H1
    obtain rfl := Option.some.inj H
    go_wp2
    go_ret
    exact ⟨zF, zC HB.out GE108.out⟩
   ·replace c13 := Bool.eq_false_iff.mpr c13
    subst c13
    have H1 : (if (l0_2.length : Int) = 0 then (r33_one.j1 kj2 a1 (l0_2.length : Int) true l0_0 a0_1 l0_2) else (if 0 ≤ (wrap64 ((l0_2.length : Int) - 1)) then (if (wrap64 ((l0_2.length : Int) - 1)) < (l0_2.length : Int) then (if ((rd_T37 l0_2 (wrap64 ((l0_2.length : Int) - 1))).f0) < 26 then (r33_one.j1 kj2 a1 (l0_2.length : Int) true l0_0 a0_1 l0_2) else (r33_one.j1 kj2 a1 (l0_2.length : Int) (decide (((rd_T37 l0_2 (wrap64 ((l0_2.length : Int) - 1))).f0) > 29)) l0_0 a0_1 l0_2)) else (none)) else (none))) = some r := by rw [if_neg (show ¬ (false = true) by decide)] at H; exact H
    clear H
    have H := H1
    clear H1
    have HC14 := Aside0.mk H
    clear H
    go_upto_region 4 with (fail)
    go_cut [49] (fun v49 wc => ∃ (kq : Nat) (x49_13 : Bool), v49 = .bool x49_13 ∧ Aside0 (r33_one.j1 kq a1 (l0_2.length : Int) x49_13 l0_0 a0_1 l0_2 = some r) ∧ Aside0 (kq ≤ kj2) ∧ Aside0 (wc.heap[gb108]? = some (.cells #[(.slice A0_0 l0_0.length c0_0), .int .i64 a0_1, (.slice A0_2 l0_2.length c0_2)] 33 (0, 0))) ∧ Aside0 (Below w.heap.size w wc))
    case first =>
     have H := HC14.out
     clear HC14
     by_cases c15 : (l0_2.length : Int) = 0
     ·rw [if_pos c15] at H
      have c15b0 : ((l0_2.length : Int) == 0) = true := beq_iff_eq.mpr c15
      have c15b1 : ((l0_2.length : Int) != 0) = false := bne_eq_false_iff_eq.mpr c15
      clear c15
      (first | rw [c15b0] | (simp only [i64_w, i32_w]; rw [c15b0]) | skip)
      have H' := Aside0.mk H
      clear H
      go_wp2
      go_meet
      case rel => exact ⟨_, (true), (by first | rfl | (simp; done) | (simp [*]; done)), H', ⟨by have := HJ2.out; first | omega | exact Nat.le_refl _⟩, ⟨zK BK108.out⟩, ⟨zC HB.out GE108.out⟩⟩
     ·rw [if_neg c15] at H
      have c15b0 : ((l0_2.length : Int) == 0) = false := beq_eq_false_iff_ne.mpr c15
      have c15b1 : ((l0_2.length : Int) != 0) = true := bne_iff_ne.mpr c15
      have c15b2 : ¬ (l0_2 = []) := fun h_ => c15 (by rw [h_]; rfl)
      (first | rw [c15b0] | (simp only [i64_w, i32_w]; rw [c15b0]) | skip)
      obtain ⟨ji16, hji16⟩ : ∃ j_ : Int, (wrap64 ((l0_2.length : Int) - 1)) = j_ := ⟨_, rfl⟩
      replace H : (if 0 ≤ (ji16) then (if (ji16) < (l0_2.length : Int) then (if ((rd_T37 l0_2 (ji16)).f0) < 26 then (r33_one.j1 kj2 a1 (l0_2.length : Int) true l0_0 a0_1 l0_2) else (r33_one.j1 kj2 a1 (l0_2.length : Int) (decide (((rd_T37 l0_2 (ji16)).f0) > 29)) l0_0 a0_1 l0_2)) else (none)) else (none)) = some r := by first | (rw [hji16] at H; exact H) | (simp only [hji16] at H ⊢; exact H)
      have hji16w : (IntKind.i64.wrap ((l0_2.length : Int) - 1)) = ji16 := (i64_w _).trans hji16
      by_cases c17 : 0 ≤ (ji16)
      ·rw [if_pos c17] at H
       have c17b0 : decide (0 ≤ (ji16)) = true := decide_eq_true c17
       clear c17
       by_cases c18 : (ji16) < (l0_2.length : Int)
       ·rw [if_pos c18] at H
        have c18b0 : decide ((ji16) < (l0_2.length : Int)) = true := decide_eq_true c18
        clear c18
        by_cases c19 : ((rd_T37 l0_2 (ji16)).f0) < 26
        ·rw [if_pos c19] at H
         have c19b0 : decide (((rd_T37 l0_2 (ji16)).f0) < 26) = true := decide_eq_true c19
         clear c19
         have H' := Aside0.mk H
         clear H
         have hcz20_0 : wc.cell? ⟨gb108, 0, none⟩ = some (.slice A0_0 l0_0.length c0_0) := (blk_cell BK108.out 0).trans rfl
         have hcz20_1 : wc.cell? ⟨gb108, 1, none⟩ = some (.int .i64 a0_1) := (blk_cell BK108.out 1).trans rfl
         have hcz20_2 : wc.cell? ⟨gb108, 2, none⟩ = some (.slice A0_2 l0_2.length c0_2) := (blk_cell BK108.out 2).trans rfl
         have hfz20_0 := blk_frozen BK108.out 0
         have hfz20_1 := blk_frozen BK108.out 1
         have hfz20_2 := blk_frozen BK108.out 2
         have p109 : 0 ≤ ((ji16) : Int) := of_decide_eq_true zS
         have q109 : (ji16) < (l0_2.length : Int) := of_decide_eq_true zS
         obtain ⟨ad109, A109_5, c109_5, e109, hx109_0, hx109_1, hx109_2, hx109_3, hx109_4, hx109_5, hx109_6, hx109_7, hl109_5, hi109_5⟩ := at_T37 HR0_2.out (ji16) p109 q109
         cases e109
         replace hx109_0 := (HB.out.cell (World.block_lt_of_cell? w _ hx109_0)).trans hx109_0
         replace hx109_1 := (HB.out.cell (World.block_lt_of_cell? w _ hx109_1)).trans hx109_1
         replace hx109_2 := (HB.out.cell (World.block_lt_of_cell? w _ hx109_2)).trans hx109_2
         replace hx109_3 := (HB.out.cell (World.block_lt_of_cell? w _ hx109_3)).trans hx109_3
         replace hx109_4 := (HB.out.cell (World.block_lt_of_cell? w _ hx109_4)).trans hx109_4
         replace hx109_5 := (HB.out.cell (World.block_lt_of_cell? w _ hx109_5)).trans hx109_5
         replace hx109_6 := (HB.out.cell (World.block_lt_of_cell? w _ hx109_6)).trans hx109_6
         replace hx109_7 := (HB.out.cell (World.block_lt_of_cell? w _ hx109_7)).trans hx109_7
         have HR109_5 := Aside0.mk hi109_5
         have HC109_5 := Aside0.mk hl109_5
         clear hi109_5 hl109_5
         replace p109 := eq_true p109
         replace q109 := eq_true q109
         go_wp2
         go_meet
         case rel => exact ⟨_, (true), (by first | rfl | (simp; done) | (simp [*]; done)), H', ⟨by have := HJ2.out; first | omega | exact Nat.le_refl _⟩, ⟨zK BK108.out⟩, ⟨zC HB.out GE108.out⟩⟩
        ·rw [if_neg c19] at H
         have c19b0 : decide (((rd_T37 l0_2 (ji16)).f0) < 26) = false := decide_eq_false c19
         clear c19
         have H' := Aside0.mk H
         clear H
         have hcz21_0 : wc.cell? ⟨gb108, 0, none⟩ = some (.slice A0_0 l0_0.length c0_0) := (blk_cell BK108.out 0).trans rfl
         have hcz21_1 : wc.cell? ⟨gb108, 1, none⟩ = some (.int .i64 a0_1) := (blk_cell BK108.out 1).trans rfl
         have hcz21_2 : wc.cell? ⟨gb108, 2, none⟩ = some (.slice A0_2 l0_2.length c0_2) := (blk_cell BK108.out 2).trans rfl
         have hfz21_0 := blk_frozen BK108.out 0
         have hfz21_1 := blk_frozen BK108.out 1
         have hfz21_2 := blk_frozen BK108.out 2
         have p109 : 0 ≤ ((ji16) : Int) := of_decide_eq_true zS
         have q109 : (ji16) < (l0_2.length : Int) := of_decide_eq_true zS
         obtain ⟨ad109, A109_5, c109_5, e109, hx109_0, hx109_1, hx109_2, hx109_3, hx109_4, hx109_5, hx109_6, hx109_7, hl109_5, hi109_5⟩ := at_T37 HR0_2.out (ji16) p109 q109
         cases e109
         replace hx109_0 := (HB.out.cell (World.block_lt_of_cell? w _ hx109_0)).trans hx109_0
         replace hx109_1 := (HB.out.cell (World.block_lt_of_cell? w _ hx109_1)).trans hx109_1
         replace hx109_2 := (HB.out.cell (World.block_lt_of_cell? w _ hx109_2)).trans hx109_2
         replace hx109_3 := (HB.out.cell (World.block_lt_of_cell? w _ hx109_3)).trans hx109_3
         replace hx109_4 := (HB.out.cell (World.block_lt_of_cell? w _ hx109_4)).trans hx109_4
         replace hx109_5 := (HB.out.cell (World.block_lt_of_cell? w _ hx109_5)).trans hx109_5
         replace hx109_6 := (HB.out.cell (World.block_lt_of_cell? w _ hx109_6)).trans hx109_6
         replace hx109_7 := (HB.out.cell (World.block_lt_of_cell? w _ hx109_7)).trans hx109_7
         have HR109_5 := Aside0.mk hi109_5
         have HC109_5 := Aside0.mk hl109_5
         clear hi109_5 hl109_5
         replace p109 := eq_true p109
         replace q109 := eq_true q109
         have p110 : 0 ≤ ((ji16) : Int) := of_decide_eq_true zS
         have q110 : (ji16) < (l0_2.length : Int) := of_decide_eq_true zS
         obtain ⟨ad110, A110_5, c110_5, e110, hx110_0, hx110_1, hx110_2, hx110_3, hx110_4, hx110_5, hx110_6, hx110_7, hl110_5, hi110_5⟩ := at_T37 HR0_2.out (ji16) p110 q110
         obtain rfl : ad109 = ad110 := (by injection e110)
         replace hx110_0 := (HB.out.cell (World.block_lt_of_cell? w _ hx110_0)).trans hx110_0
         replace hx110_1 := (HB.out.cell (World.block_lt_of_cell? w _ hx110_1)).trans hx110_1
         replace hx110_2 := (HB.out.cell (World.block_lt_of_cell? w _ hx110_2)).trans hx110_2
         replace hx110_3 := (HB.out.cell (World.block_lt_of_cell? w _ hx110_3)).trans hx110_3
         replace hx110_4 := (HB.out.cell (World.block_lt_of_cell? w _ hx110_4)).trans hx110_4
         replace hx110_5 := (HB.out.cell (World.block_lt_of_cell? w _ hx110_5)).trans hx110_5
         replace hx110_6 := (HB.out.cell (World.block_lt_of_cell? w _ hx110_6)).trans hx110_6
         replace hx110_7 := (HB.out.cell (World.block_lt_of_cell? w _ hx110_7)).trans hx110_7
         have HR110_5 := Aside0.mk hi110_5
         have HC110_5 := Aside0.mk hl110_5
         clear hi110_5 hl110_5
         replace p110 := eq_true p110
         replace q110 := eq_true q110
         have ea_ := Option.some.inj (hx109_5.symm.trans hx110_5)
         injection ea_ with ea_ en_ ec_
         subst ea_
         subst ec_
         clear en_
         go_wp2
         go_meet
         case rel => exact ⟨_, (decide (((rd_T37 l0_2 (ji16)).f0) > 29)), (by first | rfl | (simp; done) | (simp only [← hji16] <;> (first | rfl | simp)) | (simp [*]; done)), H', ⟨by have := HJ2.out; first | omega | exact Nat.le_refl _⟩, ⟨zK BK108.out⟩, ⟨zC HB.out GE108.out⟩⟩
       ·rw [if_neg c18] at H
        exact absurd H (by simp)
      ·rw [if_neg c17] at H
       exact absurd H (by simp)
    case rest =>
     clear HC14
     try clear c1
     try clear p1
     try clear q1
     try clear hx1
     try clear c2
     try clear p2
     try clear c6
     try clear c6b0
     try clear p6
     try clear c8
     try clear c8b0
     try clear c10
     try clear c10b0
     try clear c10b1
     try clear p10
     try clear q10
     try clear hx10
     try clear c11
     try clear p11
     try clear q11
     try clear hx11
     try clear c13
     try clear c15
     try clear c15b0
     try clear c15b1
     try clear c15b2
     try clear c17
     try clear c17b0
     try clear c18
     try clear c18b0
     try clear c19
     try clear c19b0
     try clear c20
     try clear hcz11_0
     try clear hcz11_1
     try clear hcz11_2
     try clear hcz12_0
     try clear hcz12_1
     try clear hcz12_2
     try clear hcz20_0
     try clear hcz20_1
     try clear hcz20_2
     try clear hcz21_0
     try clear hcz21_1
     try clear hcz21_2
     try clear hcz5_0
     try clear hcz5_1
     try clear hcz5_2
     try clear hcz7_0
     try clear hcz7_1
     try clear hcz7_2
     try clear hcz9_0
     try clear hcz9_1
     try clear hcz9_2
     try clear hfz11_0
     try clear hfz11_1
     try clear hfz11_2
     try clear hfz12_0
     try clear hfz12_1
     try clear hfz12_2
     try clear hfz20_0
     try clear hfz20_1
     try clear hfz20_2
     try clear hfz21_0
     try clear hfz21_1
     try clear hfz21_2
     try clear hfz5_0
     try clear hfz5_1
     try clear hfz5_2
     try clear hfz7_0
     try clear hfz7_1
     try clear hfz7_2
     try clear hfz9_0
     try clear hfz9_1
     try clear hfz9_2
     try clear hx109_0
     try clear hx109_1
     try clear hx109_2
     try clear hx109_3
     try clear hx109_4
     try clear hx109_5
     try clear hx109_6
     try clear hx109_7
     try clear hx110_0
     try clear hx110_1
     try clear hx110_2
     try clear hx110_3
     try clear hx110_4
     try clear hx110_5
     try clear hx110_6
     try clear hx110_7
     try clear p109
     try clear p110
     try clear p2
     try clear q109
     try clear q110
     obtain ⟨kq, x49_13, rfl, HA, HJ13, BK108, HB⟩ := hcut
     cases kq with
     | zero => exact absurd HA.out (by simp [r33_one.j1])
     | succ kj13 =>
      have H := HA.out
      clear HA
      simp only [r33_one.j1] at H
      by_cases c22 : x49_13 = true
      ·subst c22
       have H1 : (some 15) = some r := by rw [if_pos rfl] at H; exact H
       clear H
       have H := H1
       clear H1
       obtain rfl := Option.some.inj H
       go_wp2
       go_ret
       exact ⟨zF, zC HB.out GE108.out⟩
      ·replace c22 := Bool.eq_false_iff.mpr c22
       subst c22
       have H1 : ((r33_all.f kj13 l0_0 a0_1).bind fun t111 => (if t111 = true then (r33_one.l0 kj13 a1 (l0_2.length : Int) 0 l0_0 a0_1 l0_2) else (some 8))) = some r := by rw [if_neg (show ¬ (false = true) by decide)] at H; exact H
       clear H
       have H := H1
       clear H1
       replace H := Option.bind_eq_some_iff.mp H
       obtain ⟨t111, A230, H⟩ := H
       replace H : (if t111 = true then (r33_one.l0 kj13 a1 (l0_2.length : Int) 0 l0_0 a0_1 l0_2) else (some 8)) = some r := H
       have A23 := Aside0.mk A230
       clear A230
       by_cases c24 : t111 = true
       ·subst c24
        have H1 : (r33_one.l0 kj13 a1 (l0_2.length : Int) 0 l0_0 a0_1 l0_2) = some r := by rw [if_pos rfl] at H; exact H
        clear H
        have H := H1
        clear H1
        have H' := Aside0.mk H
        clear H
        have hcz25_0 : wc.cell? ⟨gb108, 0, none⟩ = some (.slice A0_0 l0_0.length c0_0) := (blk_cell BK108.out 0).trans rfl
        have hcz25_1 : wc.cell? ⟨gb108, 1, none⟩ = some (.int .i64 a0_1) := (blk_cell BK108.out 1).trans rfl
        have hcz25_2 : wc.cell? ⟨gb108, 2, none⟩ = some (.slice A0_2 l0_2.length c0_2) := (blk_cell BK108.out 2).trans rfl
        have hfz25_0 := blk_frozen BK108.out 0
        have hfz25_1 := blk_frozen BK108.out 1
        have hfz25_2 := blk_frozen BK108.out 2
        go_wp2_with (first | ((with_reducible refine gate_callee (f := 43) rfl ?_); refine goesL_ (some 54) rfl rfl Try.func43 (by kernel_rfl) rfl #[.slice A0_0 l0_0.length c0_0, .int .i64 a0_1] rfl zA ?_; (with_reducible refine (r33_all.calls kj13 _ _ l0_0 a0_1 true _ ?side1 ?side2 A23.out).mono ?_); (case side1 => repeat (first | exact (Kd.C_below HR0_0.out HB.out) | (with_reducible refine Kd.C_alloc ?_ _) | (with_reducible refine Kd.C_drewN ?_ _) | (with_reducible refine Kd.C_drew ?_))); (case side2 => exact HC0_0.out); rintro e w' ⟨rfl, ⟨nd, rfl⟩⟩; refine ⟨_, rfl, ?_⟩))
        go_loopg [6] kj13 (fun kq v6 w' => ∃ (x6_3 : Int), v6 = .int .i64 x6_3 ∧ Aside0 (r33_one.l0 kq a1 (l0_2.length : Int) x6_3 l0_0 a0_1 l0_2 = some r) ∧ Aside0 (kq ≤ kj13) ∧ Aside0 (w'.heap[gb108]? = some (.cells #[(.slice A0_0 l0_0.length c0_0), .int .i64 a0_1, (.slice A0_2 l0_2.length c0_2)] 33 (0, 0))) ∧ Aside0 (Below w.heap.size w w'))
        case atStart => exact ⟨(0), (by first | rfl | (simp; done) | (simp [*]; done)), H', ⟨Nat.le_refl _⟩, ⟨zK BK108.out⟩, ⟨zC HB.out GE108.out⟩⟩
        case round =>
         clear H'
         try clear c1
         try clear p1
         try clear q1
         try clear hx1
         try clear c2
         try clear p2
         try clear c4
         try clear c6
         try clear c6b0
         try clear p6
         try clear c8
         try clear c8b0
         try clear c10
         try clear c10b0
         try clear c10b1
         try clear p10
         try clear q10
         try clear hx10
         try clear c11
         try clear p11
         try clear q11
         try clear hx11
         try clear c13
         try clear c15
         try clear c15b0
         try clear c15b1
         try clear c15b2
         try clear c17
         try clear c17b0
         try clear c18
         try clear c18b0
         try clear c19
         try clear c19b0
         try clear c20
         try clear c22
         try clear c24
         try clear hcz11_0
         try clear hcz11_1
         try clear hcz11_2
         try clear hcz12_0
         try clear hcz12_1
         try clear hcz12_2
         try clear hcz20_0
         try clear hcz20_1
         try clear hcz20_2
         try clear hcz21_0
         try clear hcz21_1
         try clear hcz21_2
         try clear hcz25_0
         try clear hcz25_1
         try clear hcz25_2
         try clear hcz5_0
         try clear hcz5_1
         try clear hcz5_2
         try clear hcz7_0
         try clear hcz7_1
         try clear hcz7_2
         try clear hcz9_0
         try clear hcz9_1
         try clear hcz9_2
         try clear hfz11_0
         try clear hfz11_1
         try clear hfz11_2
         try clear hfz12_0
         try clear hfz12_1
         try clear hfz12_2
         try clear hfz20_0
         try clear hfz20_1
         try clear hfz20_2
         try clear hfz21_0
         try clear hfz21_1
         try clear hfz21_2
         try clear hfz25_0
         try clear hfz25_1
         try clear hfz25_2
         try clear hfz5_0
         try clear hfz5_1
         try clear hfz5_2
         try clear hfz7_0
         try clear hfz7_1
         try clear hfz7_2
         try clear hfz9_0
         try clear hfz9_1
         try clear hfz9_2
         try clear hx109_0
         try clear hx109_1
         try clear hx109_2
         try clear hx109_3
         try clear hx109_4
         try clear hx109_5
         try clear hx109_6
         try clear hx109_7
         try clear hx110_0
         try clear hx110_1
         try clear hx110_2
         try clear hx110_3
         try clear hx110_4
         try clear hx110_5
         try clear hx110_6
         try clear hx110_7
         try clear p1
         try clear p10
         try clear p109
         try clear p11
         try clear p110
         try clear p2
         try clear p6
         try clear q1
         try clear q10
         try clear q109
         try clear q11
         try clear q110
         obtain ⟨x6_3, rfl, HA, HK3, BK108, HB⟩ := hrel
         cases gk with
         | zero => exact absurd HA.out (by simp [r33_one.l0])
         | succ k3 =>
          have H := HA.out
          clear HA
          simp only [r33_one.l0] at H
          by_cases c26 : x6_3 < (l0_2.length : Int)
          ·rw [if_pos c26] at H
           have c26b0 : decide (x6_3 < (l0_2.length : Int)) = true := decide_eq_true c26
           clear c26
           by_cases c27 : 0 ≤ x6_3
           ·rw [if_pos c27] at H
            have c27b0 : decide (0 ≤ x6_3) = true := decide_eq_true c27
            clear c27
            by_cases c28 : x6_3 < (l0_2.length : Int)
            ·rw [if_pos c28] at H
             have c28b0 : decide (x6_3 < (l0_2.length : Int)) = true := decide_eq_true c28
             clear c28
             replace H := Option.bind_eq_some_iff.mp H
             obtain ⟨t113, A290, H⟩ := H
             replace H : (if t113 = true then (r33_one.l0 k3 a1 (l0_2.length : Int) (wrap64 (x6_3 + 1)) l0_0 a0_1 l0_2) else (some 2)) = some r := H
             have A29 := Aside0.mk A290
             clear A290
             by_cases c30 : t113 = true
             ·subst c30
              have H1 : (r33_one.l0 k3 a1 (l0_2.length : Int) (wrap64 (x6_3 + 1)) l0_0 a0_1 l0_2) = some r := by rw [if_pos rfl] at H; exact H
              clear H
              have H := H1
              clear H1
              have H' := Aside0.mk H
              clear H
              try go_wp2
              have n0_ := Aside0.mk (blk_drew BK108.out)
              have n1_ := Aside0.mk (below_drew1 HB.out)
              clear BK108
              clear HB
              have BK108 := n0_
              have HB := n1_
              clear n0_ n1_
              have p112 : 0 ≤ (x6_3 : Int) := of_decide_eq_true zS
              have q112 : x6_3 < (l0_2.length : Int) := of_decide_eq_true zS
              obtain ⟨ad112, A112_5, c112_5, e112, hx112_0, hx112_1, hx112_2, hx112_3, hx112_4, hx112_5, hx112_6, hx112_7, hl112_5, hi112_5⟩ := at_T37 HR0_2.out x6_3 p112 q112
              have hw112_7 := hx112_7
              have hw112_6 := hx112_6
              have hw112_5 := hx112_5
              have hw112_4 := hx112_4
              have hw112_3 := hx112_3
              have hw112_2 := hx112_2
              have hw112_1 := hx112_1
              have hw112_0 := hx112_0
              cases e112
              replace hx112_0 := (HB.out.cell (World.block_lt_of_cell? w _ hx112_0)).trans hx112_0
              replace hx112_1 := (HB.out.cell (World.block_lt_of_cell? w _ hx112_1)).trans hx112_1
              replace hx112_2 := (HB.out.cell (World.block_lt_of_cell? w _ hx112_2)).trans hx112_2
              replace hx112_3 := (HB.out.cell (World.block_lt_of_cell? w _ hx112_3)).trans hx112_3
              replace hx112_4 := (HB.out.cell (World.block_lt_of_cell? w _ hx112_4)).trans hx112_4
              replace hx112_5 := (HB.out.cell (World.block_lt_of_cell? w _ hx112_5)).trans hx112_5
              replace hx112_6 := (HB.out.cell (World.block_lt_of_cell? w _ hx112_6)).trans hx112_6
              replace hx112_7 := (HB.out.cell (World.block_lt_of_cell? w _ hx112_7)).trans hx112_7
              have HR112_5 := Aside0.mk hi112_5
              have HC112_5 := Aside0.mk hl112_5
              clear hi112_5 hl112_5
              replace p112 := eq_true p112
              replace q112 := eq_true q112
              refine start_ (n := 11) (S := fun w' => w'.cell? ⟨gb108, 0, none⟩ = some (.slice A0_0 l0_0.length c0_0) ∧ w'.cell? ⟨gb108, 1, none⟩ = some (.int .i64 a0_1) ∧ w'.cell? ⟨gb108, 2, none⟩ = some (.slice (some ad112) l0_2.length c0_2) ∧ w'.cell? (ad112.add ((x6_3).toNat * 8)) = some (.int .i64 ((rd_T37 l0_2 x6_3).f0)) ∧ w'.cell? ⟨(ad112.add ((x6_3).toNat * 8)).block, (ad112.add ((x6_3).toNat * 8)).off + 1, none⟩ = some (.int .i64 ((rd_T37 l0_2 x6_3).f1)) ∧ w'.cell? ⟨(ad112.add ((x6_3).toNat * 8)).block, (ad112.add ((x6_3).toNat * 8)).off + 2, none⟩ = some (.int .i64 ((rd_T37 l0_2 x6_3).f2)) ∧ w'.cell? ⟨(ad112.add ((x6_3).toNat * 8)).block, (ad112.add ((x6_3).toNat * 8)).off + 3, none⟩ = some (.int .i64 ((rd_T37 l0_2 x6_3).f3)) ∧ w'.cell? ⟨(ad112.add ((x6_3).toNat * 8)).block, (ad112.add ((x6_3).toNat * 8)).off + 4, none⟩ = some (.int .i64 ((rd_T37 l0_2 x6_3).f4)) ∧ w'.cell? ⟨(ad112.add ((x6_3).toNat * 8)).block, (ad112.add ((x6_3).toNat * 8)).off + 5, none⟩ = some (.slice A112_5 ((rd_T37 l0_2 x6_3).f5).length c112_5) ∧ w'.cell? ⟨(ad112.add ((x6_3).toNat * 8)).block, (ad112.add ((x6_3).toNat * 8)).off + 6, none⟩ = some (.int .i64 ((rd_T37 l0_2 x6_3).f6.f0)) ∧ w'.cell? ⟨(ad112.add ((x6_3).toNat * 8)).block, (ad112.add ((x6_3).toNat * 8)).off + 7, none⟩ = some (.int .i64 ((rd_T37 l0_2 x6_3).f6.f1))) (ds := []) #[false, false, false, false, false, false, false, false, false, false, false] (by kernel_rfl) rfl rfl ⟨(blk_cell BK108.out 0).trans rfl, (blk_cell BK108.out 1).trans rfl, (blk_cell BK108.out 2).trans rfl, ((HB.out.cell (World.block_lt_of_cell? w _ hw112_0)).trans hw112_0), ((HB.out.cell (World.block_lt_of_cell? w _ hw112_1)).trans hw112_1), ((HB.out.cell (World.block_lt_of_cell? w _ hw112_2)).trans hw112_2), ((HB.out.cell (World.block_lt_of_cell? w _ hw112_3)).trans hw112_3), ((HB.out.cell (World.block_lt_of_cell? w _ hw112_4)).trans hw112_4), ((HB.out.cell (World.block_lt_of_cell? w _ hw112_5)).trans hw112_5), ((HB.out.cell (World.block_lt_of_cell? w _ hw112_6)).trans hw112_6), ((HB.out.cell (World.block_lt_of_cell? w _ hw112_7)).trans hw112_7)⟩ (fun hHeld => ?_); refine with_tabW r33_one.tab11 r33_one.bits11 (fun HT_ HW_ => ?_)
              generalize wr.drew = w31 at BK108 HB HR112_5 hx112_0 hx112_1 hx112_2 hx112_3 hx112_4 hx112_5 hx112_6 hx112_7 hHeld ⊢
              refine pure_ (i := 0) (N := some 61) (v := ?_) (a' := ?_) #[true, false, false, false, false, false, false, false, false, false, false] rfl rfl (any_of HT_.out (by kernel_rfl)) (fun _ _ _ h => h) (Or.inl ⟨by rfl, ?_⟩) ?_ ?_
              rotate_left
              ·intro w'
               go_simp
               with_reducible rfl
              rotate_left
              ·simp only [Act.put, List.setIfInBounds_toArray, List.set_cons_zero, List.set_cons_succ, i64_w, i32_w]
               rfl
              refine pure_ (i := 2) (N := some 63) (v := ?_) (a' := ?_) #[true, false, true, false, false, false, false, false, false, false, false] rfl rfl (any_of HT_.out (by kernel_rfl)) (fun _ _ _ h => h) (Or.inl ⟨by rfl, ?_⟩) ?_ ?_
              rotate_left
              ·intro w'
               go_simp
               with_reducible rfl
              rotate_left
              ·simp only [Act.put, List.setIfInBounds_toArray, List.set_cons_zero, List.set_cons_succ, i64_w, i32_w]
               rfl
              refine pure_ (i := 5) (N := some 66) (v := ?_) (a' := ?_) #[true, false, true, false, false, true, false, false, false, false, false] rfl rfl (any_of HT_.out (by kernel_rfl)) (fun _ _ _ h => h) (Or.inl ⟨by rfl, ?_⟩) ?_ ?_
              rotate_left
              ·intro w'
               go_simp
               with_reducible rfl
              rotate_left
              ·simp only [Act.put, List.setIfInBounds_toArray, List.set_cons_zero, List.set_cons_succ, i64_w, i32_w]
               rfl
              refine pure_ (i := 7) (N := some 68) (v := ?_) (a' := ?_) #[true, false, true, false, false, true, false, true, false, false, false] rfl rfl (any_of HT_.out (by kernel_rfl)) (fun _ _ _ h => h) (Or.inl ⟨by rfl, ?_⟩) ?_ ?_
              rotate_left
              ·intro w'
               go_simp
               with_reducible rfl
              rotate_left
              ·simp only [Act.put, List.setIfInBounds_toArray, List.set_cons_zero, List.set_cons_succ, i64_w, i32_w]
               rfl
              refine pure_ (i := 8) (N := some 69) (v := ?_) (a' := ?_) #[true, false, true, false, false, true, false, true, true, false, false] rfl rfl (any_of HT_.out (by kernel_rfl)) (fun _ _ _ h => h) (Or.inl ⟨by rfl, ?_⟩) ?_ ?_
              rotate_left
              ·intro w'
               go_simp
               with_reducible rfl
              rotate_left
              ·simp only [Act.put, List.setIfInBounds_toArray, List.set_cons_zero, List.set_cons_succ, i64_w, i32_w]
               rfl
              refine take_ (i := 1) (N := some 62) (v := ?_) (a' := ?_) #[true, true, true, false, false, true, false, true, true, false, false] rfl rfl (take_ofW HT_.out HW_.out (by kernel_rfl)) (fun _ _ _ h => h) (Or.inl ⟨by rfl, ?_⟩) hHeld ?_ ?_
              rotate_left
              ·rintro w' ⟨s0, s1, s2, s3, s4, s5, s6, s7, s8, s9, s10⟩
               go_simp
               with_reducible rfl
              rotate_left
              ·simp only [Act.put, List.setIfInBounds_toArray, List.set_cons_zero, List.set_cons_succ, i64_w, i32_w]
               rfl
              refine pure_ (i := 3) (N := some 64) (v := ?_) (a' := ?_) #[true, true, true, true, false, true, false, true, true, false, false] rfl rfl (any_of HT_.out (by kernel_rfl)) (fun _ _ _ h => h) (Or.inl ⟨by rfl, ?_⟩) ?_ ?_
              rotate_left
              ·intro w'
               go_simp
               with_reducible rfl
              rotate_left
              ·simp only [Act.put, List.setIfInBounds_toArray, List.set_cons_zero, List.set_cons_succ, i64_w, i32_w]
               rfl
              refine take_ (i := 4) (N := some 65) (v := ?_) (a' := ?_) #[true, true, true, true, true, true, false, true, true, false, false] rfl rfl (take_ofW HT_.out HW_.out (by kernel_rfl)) (fun _ _ _ h => h) (Or.inl ⟨by rfl, ?_⟩) hHeld ?_ ?_
              rotate_left
              ·rintro w' ⟨s0, s1, s2, s3, s4, s5, s6, s7, s8, s9, s10⟩
               go_simp
               with_reducible rfl
              rotate_left
              ·simp only [Act.put, List.setIfInBounds_toArray, List.set_cons_zero, List.set_cons_succ, i64_w, i32_w]
               rfl
              refine take_ (i := 6) (N := some 67) (v := ?_) (a' := ?_) #[true, true, true, true, true, true, true, true, true, false, false] rfl rfl (take_ofW HT_.out HW_.out (by kernel_rfl)) (fun _ _ _ h => h) (Or.inl ⟨by rfl, ?_⟩) hHeld ?_ ?_
              rotate_left
              ·rintro w' ⟨s0, s1, s2, s3, s4, s5, s6, s7, s8, s9, s10⟩
               go_simp
               with_reducible rfl
              rotate_left
              ·simp only [Act.put, List.setIfInBounds_toArray, List.set_cons_zero, List.set_cons_succ, i64_w, i32_w]
               rfl
              refine one_ (i := 9) (N := some 70) #[true, true, true, true, true, true, true, true, true, true, false] rfl rfl (one_of HT_.out (by kernel_rfl)) (by decide) (fun K hK => ?_)
              refine goes_ Try.func44 (by kernel_rfl) rfl #[.agg #[.int .i64 ((rd_T37 l0_2 x6_3).f0), .int .i64 ((rd_T37 l0_2 x6_3).f1), .int .i64 ((rd_T37 l0_2 x6_3).f2), .int .i64 ((rd_T37 l0_2 x6_3).f3), .int .i64 ((rd_T37 l0_2 x6_3).f4), .slice A112_5 ((rd_T37 l0_2 x6_3).f5).length c112_5, .int .i64 ((rd_T37 l0_2 x6_3).f6.f0), .int .i64 ((rd_T37 l0_2 x6_3).f6.f1)], .int .i64 a0_1, .int .i64 (l0_2.length : Int), .int .i64 a1] (by rfl) rfl rfl zA ?_
              with_reducible refine (r33_inst.calls ((rd_T37 l0_2 x6_3).f0) ((rd_T37 l0_2 x6_3).f1) ((rd_T37 l0_2 x6_3).f2) ((rd_T37 l0_2 x6_3).f3) ((rd_T37 l0_2 x6_3).f4) _ _ ((rd_T37 l0_2 x6_3).f5) ((rd_T37 l0_2 x6_3).f6.f0) ((rd_T37 l0_2 x6_3).f6.f1) a0_1 (l0_2.length : Int) a1 true _ ?side1 ?side2 A29.out).mono ?_
              (case side1 => repeat (first | exact (Kd.C_below HR112_5.out HB.out) | (with_reducible refine Kd.C_alloc ?_ _) | (with_reducible refine Kd.C_drewN ?_ _) | (with_reducible refine Kd.C_drew ?_)))
              (case side2 => exact HC112_5.out)
              rintro e w32 ⟨rfl, hb⟩
              refine ⟨_, rfl, ?_⟩
              have n0_ := Aside0.mk (blk_below (g := gb108) (o := .cells #[.slice A0_0 l0_0.length c0_0, .int .i64 a0_1, .slice (some ad112) l0_2.length c0_2] 33 (0, 0)) (zK BK108.out) hb)
              have n1_ := Aside0.mk (below_step (zC HB.out GE108.out) hb)
              clear BK108
              clear HB
              have BK108 := n0_
              have HB := n1_
              clear n0_ n1_
              (try clear hb)
              (try clear hb2)
              (try clear hk)
              (try clear hi)
              refine hK.out _ _ ⟨(blk_cell BK108.out 0).trans rfl, (blk_cell BK108.out 1).trans rfl, (blk_cell BK108.out 2).trans rfl, ((HB.out.cell (World.block_lt_of_cell? w _ hw112_0)).trans hw112_0), ((HB.out.cell (World.block_lt_of_cell? w _ hw112_1)).trans hw112_1), ((HB.out.cell (World.block_lt_of_cell? w _ hw112_2)).trans hw112_2), ((HB.out.cell (World.block_lt_of_cell? w _ hw112_3)).trans hw112_3), ((HB.out.cell (World.block_lt_of_cell? w _ hw112_4)).trans hw112_4), ((HB.out.cell (World.block_lt_of_cell? w _ hw112_5)).trans hw112_5), ((HB.out.cell (World.block_lt_of_cell? w _ hw112_6)).trans hw112_6), ((HB.out.cell (World.block_lt_of_cell? w _ hw112_7)).trans hw112_7)⟩ (fun hHeld => ?_)
              clear hK K
              refine norm_ (a' := ?_) ?_ ?_
              rotate_left
              ·show Act.put _ (some 70) _ = _
               simp only [Act.put, List.setIfInBounds_toArray, List.set_cons_zero, List.set_cons_succ, i64_w, i32_w]
               rfl
              refine pure_ (i := 10) (N := some 71) (v := ?_) (a' := ?_) #[true, true, true, true, true, true, true, true, true, true, true] rfl rfl (any_of HT_.out (by kernel_rfl)) (fun _ _ _ h => h) (Or.inl ⟨by rfl, ?_⟩) ?_ ?_
              rotate_left
              ·intro w'
               go_simp
               with_reducible rfl
              rotate_left
              ·simp only [Act.put, List.setIfInBounds_toArray, List.set_cons_zero, List.set_cons_succ, i64_w, i32_w]
               rfl
              refine done_ (done_of HT_.out (by kernel_rfl)) ?_
              try go_wp2
              go_roundg k3
              case measure => have := HJ2.out; have := HJ13.out; have := HK3.out; omega
              case rel => exact ⟨(wrap64 (x6_3 + 1)), (by first | rfl | (simp; done) | (simp [*]; done)), H', ⟨by have := HJ2.out; have := HJ13.out; have := HK3.out; omega⟩, ⟨zK BK108.out⟩, ⟨zC HB.out GE108.out⟩⟩
             ·replace c30 := Bool.eq_false_iff.mpr c30
              subst c30
              have H1 : (some 2) = some r := by rw [if_neg (show ¬ (false = true) by decide)] at H; exact H
              clear H
              have H := H1
              clear H1
              obtain rfl := Option.some.inj H
              try go_wp2
              have n0_ := Aside0.mk (blk_drew BK108.out)
              have n1_ := Aside0.mk (below_drew1 HB.out)
              clear BK108
              clear HB
              have BK108 := n0_
              have HB := n1_
              clear n0_ n1_
              have p112 : 0 ≤ (x6_3 : Int) := of_decide_eq_true zS
              have q112 : x6_3 < (l0_2.length : Int) := of_decide_eq_true zS
              obtain ⟨ad112, A112_5, c112_5, e112, hx112_0, hx112_1, hx112_2, hx112_3, hx112_4, hx112_5, hx112_6, hx112_7, hl112_5, hi112_5⟩ := at_T37 HR0_2.out x6_3 p112 q112
              have hw112_7 := hx112_7
              have hw112_6 := hx112_6
              have hw112_5 := hx112_5
              have hw112_4 := hx112_4
              have hw112_3 := hx112_3
              have hw112_2 := hx112_2
              have hw112_1 := hx112_1
              have hw112_0 := hx112_0
              cases e112
              replace hx112_0 := (HB.out.cell (World.block_lt_of_cell? w _ hx112_0)).trans hx112_0
              replace hx112_1 := (HB.out.cell (World.block_lt_of_cell? w _ hx112_1)).trans hx112_1
              replace hx112_2 := (HB.out.cell (World.block_lt_of_cell? w _ hx112_2)).trans hx112_2
              replace hx112_3 := (HB.out.cell (World.block_lt_of_cell? w _ hx112_3)).trans hx112_3
              replace hx112_4 := (HB.out.cell (World.block_lt_of_cell? w _ hx112_4)).trans hx112_4
              replace hx112_5 := (HB.out.cell (World.block_lt_of_cell? w _ hx112_5)).trans hx112_5
              replace hx112_6 := (HB.out.cell (World.block_lt_of_cell? w _ hx112_6)).trans hx112_6
              replace hx112_7 := (HB.out.cell (World.block_lt_of_cell? w _ hx112_7)).trans hx112_7
              have HR112_5 := Aside0.mk hi112_5
              have HC112_5 := Aside0.mk hl112_5
              clear hi112_5 hl112_5
              replace p112 := eq_true p112
              replace q112 := eq_true q112
              refine start_ (n := 11) (S := fun w' => w'.cell? ⟨gb108, 0, none⟩ = some (.slice A0_0 l0_0.length c0_0) ∧ w'.cell? ⟨gb108, 1, none⟩ = some (.int .i64 a0_1) ∧ w'.cell? ⟨gb108, 2, none⟩ = some (.slice (some ad112) l0_2.length c0_2) ∧ w'.cell? (ad112.add ((x6_3).toNat * 8)) = some (.int .i64 ((rd_T37 l0_2 x6_3).f0)) ∧ w'.cell? ⟨(ad112.add ((x6_3).toNat * 8)).block, (ad112.add ((x6_3).toNat * 8)).off + 1, none⟩ = some (.int .i64 ((rd_T37 l0_2 x6_3).f1)) ∧ w'.cell? ⟨(ad112.add ((x6_3).toNat * 8)).block, (ad112.add ((x6_3).toNat * 8)).off + 2, none⟩ = some (.int .i64 ((rd_T37 l0_2 x6_3).f2)) ∧ w'.cell? ⟨(ad112.add ((x6_3).toNat * 8)).block, (ad112.add ((x6_3).toNat * 8)).off + 3, none⟩ = some (.int .i64 ((rd_T37 l0_2 x6_3).f3)) ∧ w'.cell? ⟨(ad112.add ((x6_3).toNat * 8)).block, (ad112.add ((x6_3).toNat * 8)).off + 4, none⟩ = some (.int .i64 ((rd_T37 l0_2 x6_3).f4)) ∧ w'.cell? ⟨(ad112.add ((x6_3).toNat * 8)).block, (ad112.add ((x6_3).toNat * 8)).off + 5, none⟩ = some (.slice A112_5 ((rd_T37 l0_2 x6_3).f5).length c112_5) ∧ w'.cell? ⟨(ad112.add ((x6_3).toNat * 8)).block, (ad112.add ((x6_3).toNat * 8)).off + 6, none⟩ = some (.int .i64 ((rd_T37 l0_2 x6_3).f6.f0)) ∧ w'.cell? ⟨(ad112.add ((x6_3).toNat * 8)).block, (ad112.add ((x6_3).toNat * 8)).off + 7, none⟩ = some (.int .i64 ((rd_T37 l0_2 x6_3).f6.f1))) (ds := []) #[false, false, false, false, false, false, false, false, false, false, false] (by kernel_rfl) rfl rfl ⟨(blk_cell BK108.out 0).trans rfl, (blk_cell BK108.out 1).trans rfl, (blk_cell BK108.out 2).trans rfl, ((HB.out.cell (World.block_lt_of_cell? w _ hw112_0)).trans hw112_0), ((HB.out.cell (World.block_lt_of_cell? w _ hw112_1)).trans hw112_1), ((HB.out.cell (World.block_lt_of_cell? w _ hw112_2)).trans hw112_2), ((HB.out.cell (World.block_lt_of_cell? w _ hw112_3)).trans hw112_3), ((HB.out.cell (World.block_lt_of_cell? w _ hw112_4)).trans hw112_4), ((HB.out.cell (World.block_lt_of_cell? w _ hw112_5)).trans hw112_5), ((HB.out.cell (World.block_lt_of_cell? w _ hw112_6)).trans hw112_6), ((HB.out.cell (World.block_lt_of_cell? w _ hw112_7)).trans hw112_7)⟩ (fun hHeld => ?_); refine with_tabW r33_one.tab11 r33_one.bits11 (fun HT_ HW_ => ?_)
              generalize wr.drew = w33 at BK108 HB HR112_5 hx112_0 hx112_1 hx112_2 hx112_3 hx112_4 hx112_5 hx112_6 hx112_7 hHeld ⊢
              refine pure_ (i := 0) (N := some 61) (v := ?_) (a' := ?_) #[true, false, false, false, false, false, false, false, false, false, false] rfl rfl (any_of HT_.out (by kernel_rfl)) (fun _ _ _ h => h) (Or.inl ⟨by rfl, ?_⟩) ?_ ?_
              rotate_left
              ·intro w'
               go_simp
               with_reducible rfl
              rotate_left
              ·simp only [Act.put, List.setIfInBounds_toArray, List.set_cons_zero, List.set_cons_succ, i64_w, i32_w]
               rfl
              refine pure_ (i := 2) (N := some 63) (v := ?_) (a' := ?_) #[true, false, true, false, false, false, false, false, false, false, false] rfl rfl (any_of HT_.out (by kernel_rfl)) (fun _ _ _ h => h) (Or.inl ⟨by rfl, ?_⟩) ?_ ?_
              rotate_left
              ·intro w'
               go_simp
               with_reducible rfl
              rotate_left
              ·simp only [Act.put, List.setIfInBounds_toArray, List.set_cons_zero, List.set_cons_succ, i64_w, i32_w]
               rfl
              refine pure_ (i := 5) (N := some 66) (v := ?_) (a' := ?_) #[true, false, true, false, false, true, false, false, false, false, false] rfl rfl (any_of HT_.out (by kernel_rfl)) (fun _ _ _ h => h) (Or.inl ⟨by rfl, ?_⟩) ?_ ?_
              rotate_left
              ·intro w'
               go_simp
               with_reducible rfl
              rotate_left
              ·simp only [Act.put, List.setIfInBounds_toArray, List.set_cons_zero, List.set_cons_succ, i64_w, i32_w]
               rfl
              refine pure_ (i := 7) (N := some 68) (v := ?_) (a' := ?_) #[true, false, true, false, false, true, false, true, false, false, false] rfl rfl (any_of HT_.out (by kernel_rfl)) (fun _ _ _ h => h) (Or.inl ⟨by rfl, ?_⟩) ?_ ?_
              rotate_left
              ·intro w'
               go_simp
               with_reducible rfl
              rotate_left
              ·simp only [Act.put, List.setIfInBounds_toArray, List.set_cons_zero, List.set_cons_succ, i64_w, i32_w]
               rfl
              refine pure_ (i := 8) (N := some 69) (v := ?_) (a' := ?_) #[true, false, true, false, false, true, false, true, true, false, false] rfl rfl (any_of HT_.out (by kernel_rfl)) (fun _ _ _ h => h) (Or.inl ⟨by rfl, ?_⟩) ?_ ?_
              rotate_left
              ·intro w'
               go_simp
               with_reducible rfl
              rotate_left
              ·simp only [Act.put, List.setIfInBounds_toArray, List.set_cons_zero, List.set_cons_succ, i64_w, i32_w]
               rfl
              refine take_ (i := 1) (N := some 62) (v := ?_) (a' := ?_) #[true, true, true, false, false, true, false, true, true, false, false] rfl rfl (take_ofW HT_.out HW_.out (by kernel_rfl)) (fun _ _ _ h => h) (Or.inl ⟨by rfl, ?_⟩) hHeld ?_ ?_
              rotate_left
              ·rintro w' ⟨s0, s1, s2, s3, s4, s5, s6, s7, s8, s9, s10⟩
               go_simp
               with_reducible rfl
              rotate_left
              ·simp only [Act.put, List.setIfInBounds_toArray, List.set_cons_zero, List.set_cons_succ, i64_w, i32_w]
               rfl
              refine pure_ (i := 3) (N := some 64) (v := ?_) (a' := ?_) #[true, true, true, true, false, true, false, true, true, false, false] rfl rfl (any_of HT_.out (by kernel_rfl)) (fun _ _ _ h => h) (Or.inl ⟨by rfl, ?_⟩) ?_ ?_
              rotate_left
              ·intro w'
               go_simp
               with_reducible rfl
              rotate_left
              ·simp only [Act.put, List.setIfInBounds_toArray, List.set_cons_zero, List.set_cons_succ, i64_w, i32_w]
               rfl
              refine take_ (i := 4) (N := some 65) (v := ?_) (a' := ?_) #[true, true, true, true, true, true, false, true, true, false, false] rfl rfl (take_ofW HT_.out HW_.out (by kernel_rfl)) (fun _ _ _ h => h) (Or.inl ⟨by rfl, ?_⟩) hHeld ?_ ?_
              rotate_left
              ·rintro w' ⟨s0, s1, s2, s3, s4, s5, s6, s7, s8, s9, s10⟩
               go_simp
               with_reducible rfl
              rotate_left
              ·simp only [Act.put, List.setIfInBounds_toArray, List.set_cons_zero, List.set_cons_succ, i64_w, i32_w]
               rfl
              refine take_ (i := 6) (N := some 67) (v := ?_) (a' := ?_) #[true, true, true, true, true, true, true, true, true, false, false] rfl rfl (take_ofW HT_.out HW_.out (by kernel_rfl)) (fun _ _ _ h => h) (Or.inl ⟨by rfl, ?_⟩) hHeld ?_ ?_
              rotate_left
              ·rintro w' ⟨s0, s1, s2, s3, s4, s5, s6, s7, s8, s9, s10⟩
               go_simp
               with_reducible rfl
              rotate_left
              ·simp only [Act.put, List.setIfInBounds_toArray, List.set_cons_zero, List.set_cons_succ, i64_w, i32_w]
               rfl
              refine one_ (i := 9) (N := some 70) #[true, true, true, true, true, true, true, true, true, true, false] rfl rfl (one_of HT_.out (by kernel_rfl)) (by decide) (fun K hK => ?_)
              refine goes_ Try.func44 (by kernel_rfl) rfl #[.agg #[.int .i64 ((rd_T37 l0_2 x6_3).f0), .int .i64 ((rd_T37 l0_2 x6_3).f1), .int .i64 ((rd_T37 l0_2 x6_3).f2), .int .i64 ((rd_T37 l0_2 x6_3).f3), .int .i64 ((rd_T37 l0_2 x6_3).f4), .slice A112_5 ((rd_T37 l0_2 x6_3).f5).length c112_5, .int .i64 ((rd_T37 l0_2 x6_3).f6.f0), .int .i64 ((rd_T37 l0_2 x6_3).f6.f1)], .int .i64 a0_1, .int .i64 (l0_2.length : Int), .int .i64 a1] (by rfl) rfl rfl zA ?_
              with_reducible refine (r33_inst.calls ((rd_T37 l0_2 x6_3).f0) ((rd_T37 l0_2 x6_3).f1) ((rd_T37 l0_2 x6_3).f2) ((rd_T37 l0_2 x6_3).f3) ((rd_T37 l0_2 x6_3).f4) _ _ ((rd_T37 l0_2 x6_3).f5) ((rd_T37 l0_2 x6_3).f6.f0) ((rd_T37 l0_2 x6_3).f6.f1) a0_1 (l0_2.length : Int) a1 false _ ?side1 ?side2 A29.out).mono ?_
              (case side1 => repeat (first | exact (Kd.C_below HR112_5.out HB.out) | (with_reducible refine Kd.C_alloc ?_ _) | (with_reducible refine Kd.C_drewN ?_ _) | (with_reducible refine Kd.C_drew ?_)))
              (case side2 => exact HC112_5.out)
              rintro e w34 ⟨rfl, hb⟩
              refine ⟨_, rfl, ?_⟩
              have n0_ := Aside0.mk (blk_below (g := gb108) (o := .cells #[.slice A0_0 l0_0.length c0_0, .int .i64 a0_1, .slice (some ad112) l0_2.length c0_2] 33 (0, 0)) (zK BK108.out) hb)
              have n1_ := Aside0.mk (below_step (zC HB.out GE108.out) hb)
              clear BK108
              clear HB
              have BK108 := n0_
              have HB := n1_
              clear n0_ n1_
              (try clear hb)
              (try clear hb2)
              (try clear hk)
              (try clear hi)
              refine hK.out _ _ ⟨(blk_cell BK108.out 0).trans rfl, (blk_cell BK108.out 1).trans rfl, (blk_cell BK108.out 2).trans rfl, ((HB.out.cell (World.block_lt_of_cell? w _ hw112_0)).trans hw112_0), ((HB.out.cell (World.block_lt_of_cell? w _ hw112_1)).trans hw112_1), ((HB.out.cell (World.block_lt_of_cell? w _ hw112_2)).trans hw112_2), ((HB.out.cell (World.block_lt_of_cell? w _ hw112_3)).trans hw112_3), ((HB.out.cell (World.block_lt_of_cell? w _ hw112_4)).trans hw112_4), ((HB.out.cell (World.block_lt_of_cell? w _ hw112_5)).trans hw112_5), ((HB.out.cell (World.block_lt_of_cell? w _ hw112_6)).trans hw112_6), ((HB.out.cell (World.block_lt_of_cell? w _ hw112_7)).trans hw112_7)⟩ (fun hHeld => ?_)
              clear hK K
              refine norm_ (a' := ?_) ?_ ?_
              rotate_left
              ·show Act.put _ (some 70) _ = _
               simp only [Act.put, List.setIfInBounds_toArray, List.set_cons_zero, List.set_cons_succ, i64_w, i32_w]
               rfl
              refine pure_ (i := 10) (N := some 71) (v := ?_) (a' := ?_) #[true, true, true, true, true, true, true, true, true, true, true] rfl rfl (any_of HT_.out (by kernel_rfl)) (fun _ _ _ h => h) (Or.inl ⟨by rfl, ?_⟩) ?_ ?_
              rotate_left
              ·intro w'
               go_simp
               with_reducible rfl
              rotate_left
              ·simp only [Act.put, List.setIfInBounds_toArray, List.set_cons_zero, List.set_cons_succ, i64_w, i32_w]
               rfl
              refine done_ (done_of HT_.out (by kernel_rfl)) ?_
              try go_wp2
              go_ret
              exact ⟨zF, zC HB.out GE108.out⟩
            ·rw [if_neg c28] at H
             exact absurd H (by simp)
           ·rw [if_neg c27] at H
            exact absurd H (by simp)
          ·rw [if_neg c26] at H
           have c26b0 : decide (x6_3 < (l0_2.length : Int)) = false := decide_eq_false c26
           clear c26
           obtain rfl := Option.some.inj H
           go_wp2
           go_ret
           exact ⟨zF, zC HB.out GE108.out⟩
       ·replace c24 := Bool.eq_false_iff.mpr c24
        subst c24
        have H1 : (some 8) = some r := by rw [if_neg (show ¬ (false = true) by decide)] at H; exact H
        clear H
        have H := H1
        clear H1
        obtain rfl := Option.some.inj H
        have hcz35_0 : wc.cell? ⟨gb108, 0, none⟩ = some (.slice A0_0 l0_0.length c0_0) := (blk_cell BK108.out 0).trans rfl
        have hcz35_1 : wc.cell? ⟨gb108, 1, none⟩ = some (.int .i64 a0_1) := (blk_cell BK108.out 1).trans rfl
        have hcz35_2 : wc.cell? ⟨gb108, 2, none⟩ = some (.slice A0_2 l0_2.length c0_2) := (blk_cell BK108.out 2).trans rfl
        have hfz35_0 := blk_frozen BK108.out 0
        have hfz35_1 := blk_frozen BK108.out 1
        have hfz35_2 := blk_frozen BK108.out 2
        go_wp2_with (first | ((with_reducible refine gate_callee (f := 43) rfl ?_); refine goesL_ (some 54) rfl rfl Try.func43 (by kernel_rfl) rfl #[.slice A0_0 l0_0.length c0_0, .int .i64 a0_1] rfl zA ?_; (with_reducible refine (r33_all.calls kj13 _ _ l0_0 a0_1 false _ ?side1 ?side2 A23.out).mono ?_); (case side1 => repeat (first | exact (Kd.C_below HR0_0.out HB.out) | (with_reducible refine Kd.C_alloc ?_ _) | (with_reducible refine Kd.C_drewN ?_ _) | (with_reducible refine Kd.C_drew ?_))); (case side2 => exact HC0_0.out); rintro e w' ⟨rfl, ⟨nd, rfl⟩⟩; refine ⟨_, rfl, ?_⟩))
        go_ret
        exact ⟨zF, zC HB.out GE108.out⟩
end Go.Proofs.Ytkgjbdbhpohkiaa.PLi
end
