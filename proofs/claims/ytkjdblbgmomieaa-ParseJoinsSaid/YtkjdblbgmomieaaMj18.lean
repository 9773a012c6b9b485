import Derived.Test.YtkjdblbgmomieaaMj2
import Derived.Test.YtkjdblbgmomieaaMj17
import Derived.Test.YtkjdblbgmomieaaMj3
import Derived.Test.YtkjdblbgmomieaaMj14
import Derived.Test.YtkjdblbgmomieaaMj15
-- from YtkjdblbgmomieaaPShx33
section
namespace Go.Proofs.Ytkjdblbgmomieaa.PSh
open Go.RowKit Go.Proofs.YtkjdblbgmomieaaW.PrintWords Go.Proofs.YtkjdblbgmomieaaW.PrintLast Go.Proofs.YtkjdblbgmomieaaW.PrintMore Go.Proofs.Ytkjdblbgmomieaa.Zip
attribute [local go_sem] max2_int min2_int max_two min_two max_three min_three max_four min_four   -- for this text's walks alone
set_option linter.unusedVariables false
set_option linter.unusedSimpArgs false
def turntableref05_SameProg.l0 : Nat → Int → List (S34) → List (S34) → Option (Bool)
 | 0, _, _, _ => none
 | k + 1, x5, x464000, x465000 => if x5 < (x464000.length : Int) then (if 0 ≤ x5 then (if x5 < (x465000.length : Int) then ((turntableref05_SameFunc.f k ((rd_T34 x464000 x5).f0) ((rd_T34 x464000 x5).f1) ((rd_T34 x464000 x5).f2) ((rd_T34 x464000 x5).f3) ((rd_T34 x464000 x5).f4) ((rd_T34 x465000 x5).f0) ((rd_T34 x465000 x5).f1) ((rd_T34 x465000 x5).f2) ((rd_T34 x465000 x5).f3) ((rd_T34 x465000 x5).f4)).bind fun t467 => (if t467 = true then (turntableref05_SameProg.l0 k (wrap64 (x5 + 1)) x464000 x465000) else (some false))) else (none)) else (none)) else (some true)
def turntableref05_SameProg.f (k : Nat) (l0_0 : List (S34)) (l1_0 : List (S34)) : Option (Bool) := if (l0_0.length : Int) = (l1_0.length : Int) then (turntableref05_SameProg.l0 k 0 l0_0 l1_0) else (some false)
def turntableref05_SameProg.T6 : Bool × List (List Nat × List Nat) := (true, [([], []), ([0], [0]), ([], []), ([1, 2], [1, 2]), ([3], [3]), ([], []), ([5], [5]), ([], []), ([6, 7], [6, 7]), ([8], [8]), ([4, 9], [4, 9]), ([10], [10])])
def turntableref05_SameProg.B6 : List Nat := [0, 1, 0, 7, 15, 0, 32, 0, 224, 480, 1023, 2047]
theorem turntableref05_SameProg.tab6 : rtab .any (opsOf Try.f26 6) = turntableref05_SameProg.T6 := by kernel_rfl
theorem turntableref05_SameProg.bits6 : waitsOk turntableref05_SameProg.T6.2 turntableref05_SameProg.B6 = true := by kernel_rfl
set_option maxHeartbeats 8000000 in
set_option maxRecDepth 100000 in
theorem turntableref05_SameProg.calls (k : Nat) (A0_0 : Option Addr) (c0_0 : Nat) (l0_0 : List (S34)) (A1_0 : Option Addr) (c1_0 : Nat) (l1_0 : List (S34)) (r : Bool) (w : World) (hr0_0 : Kd.C k34 w A0_0 l0_0.length l0_0) (hc0_0 : l0_0.length ≤ c0_0) (hr1_0 : Kd.C k34 w A1_0 l1_0.length l1_0) (hc1_0 : l1_0.length ≤ c1_0) (h : turntableref05_SameProg.f k l0_0 l1_0 = some r) :
  Calls Try.prog 26 #[.agg #[.slice A0_0 l0_0.length c0_0], .agg #[.slice A1_0 l1_0.length c1_0]] w fun e w' => e = .returned (.bool r) ∧ Below w.heap.size w w' := by
 have hu24 := Try.underlying24
 have hu34 := Try.underlying34
 have HR0_0 := Aside0.mk hr0_0
 have HC0_0 := Aside0.mk hc0_0
 clear hr0_0 hc0_0
 have HR1_0 := Aside0.mk hr1_0
 have HC1_0 := Aside0.mk hc1_0
 clear hr1_0 hc1_0
 have HB := Aside0.mk (Below.refl w.heap.size w)
 have H : (if (l0_0.length : Int) = (l1_0.length : Int) then (turntableref05_SameProg.l0 k 0 l0_0 l1_0) else (some false)) = some r := h
 clear h
 by_cases c3 : (l0_0.length : Int) = (l1_0.length : Int)
 ·rw [if_pos c3] at H
  have c3b0 : ((l0_0.length : Int) == (l1_0.length : Int)) = true := beq_iff_eq.mpr c3
  have c3b1 : ((l0_0.length : Int) != (l1_0.length : Int)) = false := bne_eq_false_iff_eq.mpr c3
  have c3b2 : (l0_0.length == l1_0.length) = true := by first | simpa using c3 | (simp at c3 ⊢; omega)
  clear c3
  have H' := Aside0.mk H
  clear H
  go_enter Try.func26, Try.ntmps26
  go_wp2_with (first | ((with_reducible refine gate_dst (N := 2) rfl ?_); refine box_event ?hg (N := 2) ?hd (cs := #[.slice A0_0 l0_0.length c0_0]) (t := 24) ?hr ?_; (case hd => rfl); (case hg => rfl); (case hr => first | (go_simp; done) | (go_simp; rfl)); intro gb463 hg w4 hbox hb; have n0_ := Aside0.mk (below_step (zB HB.out) hb); have n1_ := Aside0.mk (hbox); have n2_ := Aside0.mk ((by rw [hg]; exact (below_size (zB HB.out)) : w.heap.size ≤ gb463)); have n3_ := Aside0.mk ((by rw [hg]; exact (below_size (zB HB.out)) : w.heap.size ≤ gb463)); clear HB; have HB := n0_; have BK463 := n1_; have GW463 := n2_; have GE463 := n3_; clear n0_ n1_ n2_ n3_; clear hb hbox hg) | ((with_reducible refine gate_dst (N := 3) rfl ?_); refine box_event ?hg (N := 3) ?hd (cs := #[.slice A1_0 l1_0.length c1_0]) (t := 24) ?hr ?_; (case hd => rfl); (case hg => rfl); (case hr => first | (go_simp; done) | (go_simp; rfl)); intro gb464 hg w5 hbox hb; have n0_ := Aside0.mk (blk_below (g := gb463) (o := .cells #[.slice A0_0 l0_0.length c0_0] 24 (0, 0)) (zK BK463.out) hb); have n1_ := Aside0.mk (below_step (zC HB.out GE463.out) hb); have n2_ := Aside0.mk (hbox); have n3_ := Aside0.mk ((by rw [hg]; exact (below_size (zC HB.out GE463.out)) : w.heap.size ≤ gb464)); have n4_ := Aside0.mk ((by rw [hg]; exact (below_size (zC HB.out GE463.out)) : w.heap.size ≤ gb464)); have n5_ := Aside0.mk ((by rw [hg]; exact Nat.ne_of_lt (blk_lt (g := gb463) (o := .cells #[.slice A0_0 l0_0.length c0_0] 24 (0, 0)) (zK BK463.out)) : gb463 ≠ gb464)); have n6_ := Aside0.mk ((by rw [hg]; exact Nat.ne_of_gt (blk_lt (g := gb463) (o := .cells #[.slice A0_0 l0_0.length c0_0] 24 (0, 0)) (zK BK463.out)) : gb464 ≠ gb463)); clear BK463; clear HB; have BK463 := n0_; have HB := n1_; have BK464 := n2_; have GW464 := n3_; have GE464 := n4_; have NB463_464 := n5_; have NB464_463 := n6_; clear n0_ n1_ n2_ n3_ n4_ n5_ n6_; clear hb hbox hg; have hnb6 := NB463_464.out; have hnc6 := NB464_463.out; have hcz7_0 : w5.cell? ⟨gb463, 0, none⟩ = some (.slice A0_0 l0_0.length c0_0) := (blk_cell BK463.out 0).trans rfl; have hfz7_0 := blk_frozen BK463.out 0; have hcz8_0 : w5.cell? ⟨gb464, 0, none⟩ = some (.slice A1_0 l1_0.length c1_0) := (blk_cell BK464.out 0).trans rfl; have hfz8_0 := blk_frozen BK464.out 0))
  go_loopg [5] k (fun kq v5 w' => ∃ (x5_1 : Int), v5 = .int .i64 x5_1 ∧ Aside0 (turntableref05_SameProg.l0 kq x5_1 l0_0 l1_0 = some r) ∧ Aside0 (kq ≤ k) ∧ Aside0 (w'.heap[gb463]? = some (.cells #[(.slice A0_0 l0_0.length c0_0)] 24 (0, 0))) ∧ Aside0 (w'.heap[gb464]? = some (.cells #[(.slice A1_0 l1_0.length c1_0)] 24 (0, 0))) ∧ Aside0 (Below w.heap.size w w'))
  case atStart => exact ⟨(0), (by first | rfl | (simp; done) | (simp [*]; done)), H', ⟨Nat.le_refl _⟩, ⟨zK BK463.out⟩, ⟨zK BK464.out⟩, ⟨zD HB.out GE463.out GE464.out⟩⟩
  case round =>
   clear H'
   try clear c1
   try clear c2
   try clear p2
   try clear c3
   try clear c3b0
   try clear c3b1
   try clear c3b2
   try clear c6
   try clear hcz7_0
   try clear hcz8_0
   try clear hfz7_0
   try clear hfz8_0
   obtain ⟨x5_1, rfl, HA, HK1, BK463, BK464, HB⟩ := hrel
   cases gk with
   | zero => exact absurd HA.out (by simp [turntableref05_SameProg.l0])
   | succ k1 =>
    have H := HA.out
    clear HA
    simp only [turntableref05_SameProg.l0] at H
    by_cases c9 : x5_1 < (l0_0.length : Int)
    ·rw [if_pos c9] at H
     have c9b0 : decide (x5_1 < (l0_0.length : Int)) = true := decide_eq_true c9
     clear c9
     by_cases c10 : 0 ≤ x5_1
     ·rw [if_pos c10] at H
      have c10b0 : decide (0 ≤ x5_1) = true := decide_eq_true c10
      clear c10
      by_cases c11 : x5_1 < (l1_0.length : Int)
      ·rw [if_pos c11] at H
       have c11b0 : decide (x5_1 < (l1_0.length : Int)) = true := decide_eq_true c11
       clear c11
       replace H := Option.bind_eq_some_iff.mp H
       obtain ⟨t467, A120, H⟩ := H
       replace H : (if t467 = true then (turntableref05_SameProg.l0 k1 (wrap64 (x5_1 + 1)) l0_0 l1_0) else (some false)) = some r := H
       have A12 := Aside0.mk A120
       clear A120
       by_cases c13 : t467 = true
       ·subst c13
        have H1 : (turntableref05_SameProg.l0 k1 (wrap64 (x5_1 + 1)) l0_0 l1_0) = some r := by rw [if_pos rfl] at H; exact H
        clear H
        have H := H1
        clear H1
        have H' := Aside0.mk H
        clear H
        have hnb14 := NB463_464.out
        have hnc14 := NB464_463.out
        have hcz15_0 : wr.cell? ⟨gb463, 0, none⟩ = some (.slice A0_0 l0_0.length c0_0) := (blk_cell BK463.out 0).trans rfl
        have hfz15_0 := blk_frozen BK463.out 0
        try go_wp2
        have n0_ := Aside0.mk (blk_drew BK463.out)
        have n1_ := Aside0.mk (blk_drew BK464.out)
        have n2_ := Aside0.mk (below_drew1 HB.out)
        clear BK463
        clear BK464
        clear HB
        have BK463 := n0_
        have BK464 := n1_
        have HB := n2_
        clear n0_ n1_ n2_
        have p465 : 0 ≤ (x5_1 : Int) := of_decide_eq_true zS
        have q465 : x5_1 < (l0_0.length : Int) := of_decide_eq_true zS
        obtain ⟨ad465, A465_1, c465_1, A465_3, c465_3, e465, hx465_0, hx465_1, hx465_2, hx465_3, hx465_4, hl465_1, hi465_1, hl465_3, hi465_3⟩ := at_T34 HR0_0.out x5_1 p465 q465
        have hw465_4 := hx465_4
        have hw465_3 := hx465_3
        have hw465_2 := hx465_2
        have hw465_1 := hx465_1
        have hw465_0 := hx465_0
        cases e465
        replace hx465_0 := (HB.out.cell (World.block_lt_of_cell? w _ hx465_0)).trans hx465_0
        replace hx465_1 := (HB.out.cell (World.block_lt_of_cell? w _ hx465_1)).trans hx465_1
        replace hx465_2 := (HB.out.cell (World.block_lt_of_cell? w _ hx465_2)).trans hx465_2
        replace hx465_3 := (HB.out.cell (World.block_lt_of_cell? w _ hx465_3)).trans hx465_3
        replace hx465_4 := (HB.out.cell (World.block_lt_of_cell? w _ hx465_4)).trans hx465_4
        have HR465_1 := Aside0.mk hi465_1
        have HC465_1 := Aside0.mk hl465_1
        clear hi465_1 hl465_1
        have HR465_3 := Aside0.mk hi465_3
        have HC465_3 := Aside0.mk hl465_3
        clear hi465_3 hl465_3
        replace p465 := eq_true p465
        replace q465 := eq_true q465
        have p466 : 0 ≤ (x5_1 : Int) := of_decide_eq_true zS
        have q466 : x5_1 < (l1_0.length : Int) := of_decide_eq_true zS
        obtain ⟨ad466, A466_1, c466_1, A466_3, c466_3, e466, hx466_0, hx466_1, hx466_2, hx466_3, hx466_4, hl466_1, hi466_1, hl466_3, hi466_3⟩ := at_T34 HR1_0.out x5_1 p466 q466
        have hw466_4 := hx466_4
        have hw466_3 := hx466_3
        have hw466_2 := hx466_2
        have hw466_1 := hx466_1
        have hw466_0 := hx466_0
        cases e466
        replace hx466_0 := (HB.out.cell (World.block_lt_of_cell? w _ hx466_0)).trans hx466_0
        replace hx466_1 := (HB.out.cell (World.block_lt_of_cell? w _ hx466_1)).trans hx466_1
        replace hx466_2 := (HB.out.cell (World.block_lt_of_cell? w _ hx466_2)).trans hx466_2
        replace hx466_3 := (HB.out.cell (World.block_lt_of_cell? w _ hx466_3)).trans hx466_3
        replace hx466_4 := (HB.out.cell (World.block_lt_of_cell? w _ hx466_4)).trans hx466_4
        have HR466_1 := Aside0.mk hi466_1
        have HC466_1 := Aside0.mk hl466_1
        clear hi466_1 hl466_1
        have HR466_3 := Aside0.mk hi466_3
        have HC466_3 := Aside0.mk hl466_3
        clear hi466_3 hl466_3
        replace p466 := eq_true p466
        replace q466 := eq_true q466
        refine start_ (n := 12) (S := fun w' => w'.cell? ⟨gb463, 0, none⟩ = some (.slice (some ad465) l0_0.length c0_0) ∧ w'.cell? ⟨gb464, 0, none⟩ = some (.slice (some ad466) l1_0.length c1_0) ∧ w'.cell? (ad465.add ((x5_1).toNat * 5)) = some (.string ((rd_T34 l0_0 x5_1).f0)) ∧ w'.cell? ⟨(ad465.add ((x5_1).toNat * 5)).block, (ad465.add ((x5_1).toNat * 5)).off + 1, none⟩ = some (.slice A465_1 ((rd_T34 l0_0 x5_1).f1).length c465_1) ∧ w'.cell? ⟨(ad465.add ((x5_1).toNat * 5)).block, (ad465.add ((x5_1).toNat * 5)).off + 2, none⟩ = some (.int .i64 ((rd_T34 l0_0 x5_1).f2)) ∧ w'.cell? ⟨(ad465.add ((x5_1).toNat * 5)).block, (ad465.add ((x5_1).toNat * 5)).off + 3, none⟩ = some (.slice A465_3 ((rd_T34 l0_0 x5_1).f3).length c465_3) ∧ w'.cell? ⟨(ad465.add ((x5_1).toNat * 5)).block, (ad465.add ((x5_1).toNat * 5)).off + 4, none⟩ = some (.int .i64 ((rd_T34 l0_0 x5_1).f4)) ∧ w'.cell? (ad466.add ((x5_1).toNat * 5)) = some (.string ((rd_T34 l1_0 x5_1).f0)) ∧ w'.cell? ⟨(ad466.add ((x5_1).toNat * 5)).block, (ad466.add ((x5_1).toNat * 5)).off + 1, none⟩ = some (.slice A466_1 ((rd_T34 l1_0 x5_1).f1).length c466_1) ∧ w'.cell? ⟨(ad466.add ((x5_1).toNat * 5)).block, (ad466.add ((x5_1).toNat * 5)).off + 2, none⟩ = some (.int .i64 ((rd_T34 l1_0 x5_1).f2)) ∧ w'.cell? ⟨(ad466.add ((x5_1).toNat * 5)).block, (ad466.add ((x5_1).toNat * 5)).off + 3, none⟩ = some (.slice A466_3 ((rd_T34 l1_0 x5_1).f3).length c466_3) ∧ w'.cell? ⟨(ad466.add ((x5_1).toNat * 5)).block, (ad466.add ((x5_1).toNat * 5)).off + 4, none⟩ = some (.int .i64 ((rd_T34 l1_0 x5_1).f4))) (ds := []) #[false, false, false, false, false, false, false, false, false, false, false, false] (by kernel_rfl) rfl rfl ⟨(blk_cell BK463.out 0).trans rfl, (blk_cell BK464.out 0).trans rfl, ((HB.out.cell (World.block_lt_of_cell? w _ hw465_0)).trans hw465_0), ((HB.out.cell (World.block_lt_of_cell? w _ hw465_1)).trans hw465_1), ((HB.out.cell (World.block_lt_of_cell? w _ hw465_2)).trans hw465_2), ((HB.out.cell (World.block_lt_of_cell? w _ hw465_3)).trans hw465_3), ((HB.out.cell (World.block_lt_of_cell? w _ hw465_4)).trans hw465_4), ((HB.out.cell (World.block_lt_of_cell? w _ hw466_0)).trans hw466_0), ((HB.out.cell (World.block_lt_of_cell? w _ hw466_1)).trans hw466_1), ((HB.out.cell (World.block_lt_of_cell? w _ hw466_2)).trans hw466_2), ((HB.out.cell (World.block_lt_of_cell? w _ hw466_3)).trans hw466_3), ((HB.out.cell (World.block_lt_of_cell? w _ hw466_4)).trans hw466_4)⟩ (fun hHeld => ?_); refine with_tabW turntableref05_SameProg.tab6 turntableref05_SameProg.bits6 (fun HT_ HW_ => ?_)
        generalize wr.drew = w16 at BK463 BK464 HB HR465_1 HR465_3 HR466_1 HR466_3 hx465_0 hx465_1 hx465_2 hx465_3 hx465_4 hx466_0 hx466_1 hx466_2 hx466_3 hx466_4 hHeld ⊢
        refine pure_ (i := 0) (N := some 20) (v := ?_) (a' := ?_) #[true, false, false, false, false, false, false, false, false, false, false, false] rfl rfl (any_of HT_.out (by kernel_rfl)) (fun _ _ _ h => h) (Or.inl ⟨by rfl, ?_⟩) ?_ ?_
        rotate_left
        ·intro w'
         go_simp
         with_reducible rfl
        rotate_left
        ·simp only [Act.put, List.setIfInBounds_toArray, List.set_cons_zero, List.set_cons_succ, i64_w, i32_w]
         rfl
        refine pure_ (i := 2) (N := some 22) (v := ?_) (a' := ?_) #[true, false, true, false, false, false, false, false, false, false, false, false] rfl rfl (any_of HT_.out (by kernel_rfl)) (fun _ _ _ h => h) (Or.inl ⟨by rfl, ?_⟩) ?_ ?_
        rotate_left
        ·intro w'
         go_simp
         with_reducible rfl
        rotate_left
        ·simp only [Act.put, List.setIfInBounds_toArray, List.set_cons_zero, List.set_cons_succ, i64_w, i32_w]
         rfl
        refine pure_ (i := 5) (N := some 25) (v := ?_) (a' := ?_) #[true, false, true, false, false, true, false, false, false, false, false, false] rfl rfl (any_of HT_.out (by kernel_rfl)) (fun _ _ _ h => h) (Or.inl ⟨by rfl, ?_⟩) ?_ ?_
        rotate_left
        ·intro w'
         go_simp
         with_reducible rfl
        rotate_left
        ·simp only [Act.put, List.setIfInBounds_toArray, List.set_cons_zero, List.set_cons_succ, i64_w, i32_w]
         rfl
        refine pure_ (i := 7) (N := some 27) (v := ?_) (a' := ?_) #[true, false, true, false, false, true, false, true, false, false, false, false] rfl rfl (any_of HT_.out (by kernel_rfl)) (fun _ _ _ h => h) (Or.inl ⟨by rfl, ?_⟩) ?_ ?_
        rotate_left
        ·intro w'
         go_simp
         with_reducible rfl
        rotate_left
        ·simp only [Act.put, List.setIfInBounds_toArray, List.set_cons_zero, List.set_cons_succ, i64_w, i32_w]
         rfl
        refine take_ (i := 1) (N := some 21) (v := ?_) (a' := ?_) #[true, true, true, false, false, true, false, true, false, false, false, false] rfl rfl (take_ofW HT_.out HW_.out (by kernel_rfl)) (fun _ _ _ h => h) (Or.inl ⟨by rfl, ?_⟩) hHeld ?_ ?_
        rotate_left
        ·rintro w' ⟨s0, s1, s2, s3, s4, s5, s6, s7, s8, s9, s10, s11⟩
         go_simp
         with_reducible rfl
        rotate_left
        ·simp only [Act.put, List.setIfInBounds_toArray, List.set_cons_zero, List.set_cons_succ, i64_w, i32_w]
         rfl
        refine pure_ (i := 3) (N := some 23) (v := ?_) (a' := ?_) #[true, true, true, true, false, true, false, true, false, false, false, false] rfl rfl (any_of HT_.out (by kernel_rfl)) (fun _ _ _ h => h) (Or.inl ⟨by rfl, ?_⟩) ?_ ?_
        rotate_left
        ·intro w'
         go_simp
         with_reducible rfl
        rotate_left
        ·simp only [Act.put, List.setIfInBounds_toArray, List.set_cons_zero, List.set_cons_succ, i64_w, i32_w]
         rfl
        refine take_ (i := 4) (N := some 24) (v := ?_) (a' := ?_) #[true, true, true, true, true, true, false, true, false, false, false, false] rfl rfl (take_ofW HT_.out HW_.out (by kernel_rfl)) (fun _ _ _ h => h) (Or.inl ⟨by rfl, ?_⟩) hHeld ?_ ?_
        rotate_left
        ·rintro w' ⟨s0, s1, s2, s3, s4, s5, s6, s7, s8, s9, s10, s11⟩
         go_simp
         with_reducible rfl
        rotate_left
        ·simp only [Act.put, List.setIfInBounds_toArray, List.set_cons_zero, List.set_cons_succ, i64_w, i32_w]
         rfl
        refine take_ (i := 6) (N := some 26) (v := ?_) (a' := ?_) #[true, true, true, true, true, true, true, true, false, false, false, false] rfl rfl (take_ofW HT_.out HW_.out (by kernel_rfl)) (fun _ _ _ h => h) (Or.inl ⟨by rfl, ?_⟩) hHeld ?_ ?_
        rotate_left
        ·rintro w' ⟨s0, s1, s2, s3, s4, s5, s6, s7, s8, s9, s10, s11⟩
         go_simp
         with_reducible rfl
        rotate_left
        ·simp only [Act.put, List.setIfInBounds_toArray, List.set_cons_zero, List.set_cons_succ, i64_w, i32_w]
         rfl
        refine pure_ (i := 8) (N := some 28) (v := ?_) (a' := ?_) #[true, true, true, true, true, true, true, true, true, false, false, false] rfl rfl (any_of HT_.out (by kernel_rfl)) (fun _ _ _ h => h) (Or.inl ⟨by rfl, ?_⟩) ?_ ?_
        rotate_left
        ·intro w'
         go_simp
         with_reducible rfl
        rotate_left
        ·simp only [Act.put, List.setIfInBounds_toArray, List.set_cons_zero, List.set_cons_succ, i64_w, i32_w]
         rfl
        refine take_ (i := 9) (N := some 29) (v := ?_) (a' := ?_) #[true, true, true, true, true, true, true, true, true, true, false, false] rfl rfl (take_ofW HT_.out HW_.out (by kernel_rfl)) (fun _ _ _ h => h) (Or.inl ⟨by rfl, ?_⟩) hHeld ?_ ?_
        rotate_left
        ·rintro w' ⟨s0, s1, s2, s3, s4, s5, s6, s7, s8, s9, s10, s11⟩
         go_simp
         with_reducible rfl
        rotate_left
        ·simp only [Act.put, List.setIfInBounds_toArray, List.set_cons_zero, List.set_cons_succ, i64_w, i32_w]
         rfl
        refine one_ (i := 10) (N := some 30) #[true, true, true, true, true, true, true, true, true, true, true, false] rfl rfl (one_of HT_.out (by kernel_rfl)) (by decide) (fun K hK => ?_)
        refine goes_ Try.func64 (by kernel_rfl) rfl #[.agg #[.string ((rd_T34 l0_0 x5_1).f0), .slice A465_1 ((rd_T34 l0_0 x5_1).f1).length c465_1, .int .i64 ((rd_T34 l0_0 x5_1).f2), .slice A465_3 ((rd_T34 l0_0 x5_1).f3).length c465_3, .int .i64 ((rd_T34 l0_0 x5_1).f4)], .agg #[.string ((rd_T34 l1_0 x5_1).f0), .slice A466_1 ((rd_T34 l1_0 x5_1).f1).length c466_1, .int .i64 ((rd_T34 l1_0 x5_1).f2), .slice A466_3 ((rd_T34 l1_0 x5_1).f3).length c466_3, .int .i64 ((rd_T34 l1_0 x5_1).f4)]] (by rfl) rfl rfl zA ?_
        with_reducible refine (turntableref05_SameFunc.calls k1 ((rd_T34 l0_0 x5_1).f0) _ _ ((rd_T34 l0_0 x5_1).f1) ((rd_T34 l0_0 x5_1).f2) _ _ ((rd_T34 l0_0 x5_1).f3) ((rd_T34 l0_0 x5_1).f4) ((rd_T34 l1_0 x5_1).f0) _ _ ((rd_T34 l1_0 x5_1).f1) ((rd_T34 l1_0 x5_1).f2) _ _ ((rd_T34 l1_0 x5_1).f3) ((rd_T34 l1_0 x5_1).f4) true _ ?side1 ?side2 ?side3 ?side4 ?side5 ?side6 ?side7 ?side8 A12.out).mono ?_
        (case side1 => repeat (first | exact (Kd.C_below HR465_1.out HB.out) | (with_reducible refine Kd.C_alloc ?_ _) | (with_reducible refine Kd.C_drewN ?_ _) | (with_reducible refine Kd.C_drew ?_)))
        (case side2 => exact HC465_1.out)
        (case side3 => repeat (first | exact (Kd.C_below HR465_3.out HB.out) | (with_reducible refine Kd.C_alloc ?_ _) | (with_reducible refine Kd.C_drewN ?_ _) | (with_reducible refine Kd.C_drew ?_)))
        (case side4 => exact HC465_3.out)
        (case side5 => repeat (first | exact (Kd.C_below HR466_1.out HB.out) | (with_reducible refine Kd.C_alloc ?_ _) | (with_reducible refine Kd.C_drewN ?_ _) | (with_reducible refine Kd.C_drew ?_)))
        (case side6 => exact HC466_1.out)
        (case side7 => repeat (first | exact (Kd.C_below HR466_3.out HB.out) | (with_reducible refine Kd.C_alloc ?_ _) | (with_reducible refine Kd.C_drewN ?_ _) | (with_reducible refine Kd.C_drew ?_)))
        (case side8 => exact HC466_3.out)
        rintro e w17 ⟨rfl, hb⟩
        refine ⟨_, rfl, ?_⟩
        have n0_ := Aside0.mk (blk_below (g := gb463) (o := .cells #[.slice (some ad465) l0_0.length c0_0] 24 (0, 0)) (zK BK463.out) hb)
        have n1_ := Aside0.mk (blk_below (g := gb464) (o := .cells #[.slice (some ad466) l1_0.length c1_0] 24 (0, 0)) (zK BK464.out) hb)
        have n2_ := Aside0.mk (below_step (zD HB.out GE463.out GE464.out) hb)
        clear BK463
        clear BK464
        clear HB
        have BK463 := n0_
        have BK464 := n1_
        have HB := n2_
        clear n0_ n1_ n2_
        (try clear hb)
        (try clear hb2)
        (try clear hk)
        (try clear hi)
        refine hK.out _ _ ⟨(blk_cell BK463.out 0).trans rfl, (blk_cell BK464.out 0).trans rfl, ((HB.out.cell (World.block_lt_of_cell? w _ hw465_0)).trans hw465_0), ((HB.out.cell (World.block_lt_of_cell? w _ hw465_1)).trans hw465_1), ((HB.out.cell (World.block_lt_of_cell? w _ hw465_2)).trans hw465_2), ((HB.out.cell (World.block_lt_of_cell? w _ hw465_3)).trans hw465_3), ((HB.out.cell (World.block_lt_of_cell? w _ hw465_4)).trans hw465_4), ((HB.out.cell (World.block_lt_of_cell? w _ hw466_0)).trans hw466_0), ((HB.out.cell (World.block_lt_of_cell? w _ hw466_1)).trans hw466_1), ((HB.out.cell (World.block_lt_of_cell? w _ hw466_2)).trans hw466_2), ((HB.out.cell (World.block_lt_of_cell? w _ hw466_3)).trans hw466_3), ((HB.out.cell (World.block_lt_of_cell? w _ hw466_4)).trans hw466_4)⟩ (fun hHeld => ?_)
        clear hK K
        refine norm_ (a' := ?_) ?_ ?_
        rotate_left
        ·show Act.put _ (some 30) _ = _
         simp only [Act.put, List.setIfInBounds_toArray, List.set_cons_zero, List.set_cons_succ, i64_w, i32_w]
         rfl
        refine pure_ (i := 11) (N := some 31) (v := ?_) (a' := ?_) #[true, true, true, true, true, true, true, true, true, true, true, true] rfl rfl (any_of HT_.out (by kernel_rfl)) (fun _ _ _ h => h) (Or.inl ⟨by rfl, ?_⟩) ?_ ?_
        rotate_left
        ·intro w'
         go_simp
         with_reducible rfl
        rotate_left
        ·simp only [Act.put, List.setIfInBounds_toArray, List.set_cons_zero, List.set_cons_succ, i64_w, i32_w]
         rfl
        refine done_ (done_of HT_.out (by kernel_rfl)) ?_
        try go_wp2
        go_roundg k1
        case measure => have := HK1.out; omega
        case rel => exact ⟨(wrap64 (x5_1 + 1)), (by first | rfl | (simp; done) | (simp [*]; done)), H', ⟨by have := HK1.out; omega⟩, ⟨zK BK463.out⟩, ⟨zK BK464.out⟩, ⟨zD HB.out GE463.out GE464.out⟩⟩
       ·replace c13 := Bool.eq_false_iff.mpr c13
        subst c13
        have H1 : (some false) = some r := by rw [if_neg (show ¬ (false = true) by decide)] at H; exact H
        clear H
        have H := H1
        clear H1
        obtain rfl := Option.some.inj H
        have hnb18 := NB463_464.out
        have hnc18 := NB464_463.out
        have hcz19_0 : wr.cell? ⟨gb463, 0, none⟩ = some (.slice A0_0 l0_0.length c0_0) := (blk_cell BK463.out 0).trans rfl
        have hfz19_0 := blk_frozen BK463.out 0
        try go_wp2
        have n0_ := Aside0.mk (blk_drew BK463.out)
        have n1_ := Aside0.mk (blk_drew BK464.out)
        have n2_ := Aside0.mk (below_drew1 HB.out)
        clear BK463
        clear BK464
        clear HB
        have BK463 := n0_
        have BK464 := n1_
        have HB := n2_
        clear n0_ n1_ n2_
        have p465 : 0 ≤ (x5_1 : Int) := of_decide_eq_true zS
        have q465 : x5_1 < (l0_0.length : Int) := of_decide_eq_true zS
        obtain ⟨ad465, A465_1, c465_1, A465_3, c465_3, e465, hx465_0, hx465_1, hx465_2, hx465_3, hx465_4, hl465_1, hi465_1, hl465_3, hi465_3⟩ := at_T34 HR0_0.out x5_1 p465 q465
        have hw465_4 := hx465_4
        have hw465_3 := hx465_3
        have hw465_2 := hx465_2
        have hw465_1 := hx465_1
        have hw465_0 := hx465_0
        cases e465
        replace hx465_0 := (HB.out.cell (World.block_lt_of_cell? w _ hx465_0)).trans hx465_0
        replace hx465_1 := (HB.out.cell (World.block_lt_of_cell? w _ hx465_1)).trans hx465_1
        replace hx465_2 := (HB.out.cell (World.block_lt_of_cell? w _ hx465_2)).trans hx465_2
        replace hx465_3 := (HB.out.cell (World.block_lt_of_cell? w _ hx465_3)).trans hx465_3
        replace hx465_4 := (HB.out.cell (World.block_lt_of_cell? w _ hx465_4)).trans hx465_4
        have HR465_1 := Aside0.mk hi465_1
        have HC465_1 := Aside0.mk hl465_1
        clear hi465_1 hl465_1
        have HR465_3 := Aside0.mk hi465_3
        have HC465_3 := Aside0.mk hl465_3
        clear hi465_3 hl465_3
        replace p465 := eq_true p465
        replace q465 := eq_true q465
        have p466 : 0 ≤ (x5_1 : Int) := of_decide_eq_true zS
        have q466 : x5_1 < (l1_0.length : Int) := of_decide_eq_true zS
        obtain ⟨ad466, A466_1, c466_1, A466_3, c466_3, e466, hx466_0, hx466_1, hx466_2, hx466_3, hx466_4, hl466_1, hi466_1, hl466_3, hi466_3⟩ := at_T34 HR1_0.out x5_1 p466 q466
        have hw466_4 := hx466_4
        have hw466_3 := hx466_3
        have hw466_2 := hx466_2
        have hw466_1 := hx466_1
        have hw466_0 := hx466_0
        cases e466
        replace hx466_0 := (HB.out.cell (World.block_lt_of_cell? w _ hx466_0)).trans hx466_0
        replace hx466_1 := (HB.out.cell (World.block_lt_of_cell? w _ hx466_1)).trans hx466_1
        replace hx466_2 := (HB.out.cell (World.block_lt_of_cell? w _ hx466_2)).trans hx466_2
        replace hx466_3 := (HB.out.cell (World.block_lt_of_cell? w _ hx466_3)).trans hx466_3
        replace hx466_4 := (HB.out.cell (World.block_lt_of_cell? w _ hx466_4)).trans hx466_4
        have HR466_1 := Aside0.mk hi466_1
        have HC466_1 := Aside0.mk hl466_1
        clear hi466_1 hl466_1
        have HR466_3 := Aside0.mk hi466_3
        have HC466_3 := Aside0.mk hl466_3
        clear hi466_3 hl466_3
        replace p466 := eq_true p466
        replace q466 := eq_true q466
        refine start_ (n := 12) (S := fun w' => w'.cell? ⟨gb463, 0, none⟩ = some (.slice (some ad465) l0_0.length c0_0) ∧ w'.cell? ⟨gb464, 0, none⟩ = some (.slice (some ad466) l1_0.length c1_0) ∧ w'.cell? (ad465.add ((x5_1).toNat * 5)) = some (.string ((rd_T34 l0_0 x5_1).f0)) ∧ w'.cell? ⟨(ad465.add ((x5_1).toNat * 5)).block, (ad465.add ((x5_1).toNat * 5)).off + 1, none⟩ = some (.slice A465_1 ((rd_T34 l0_0 x5_1).f1).length c465_1) ∧ w'.cell? ⟨(ad465.add ((x5_1).toNat * 5)).block, (ad465.add ((x5_1).toNat * 5)).off + 2, none⟩ = some (.int .i64 ((rd_T34 l0_0 x5_1).f2)) ∧ w'.cell? ⟨(ad465.add ((x5_1).toNat * 5)).block, (ad465.add ((x5_1).toNat * 5)).off + 3, none⟩ = some (.slice A465_3 ((rd_T34 l0_0 x5_1).f3).length c465_3) ∧ w'.cell? ⟨(ad465.add ((x5_1).toNat * 5)).block, (ad465.add ((x5_1).toNat * 5)).off + 4, none⟩ = some (.int .i64 ((rd_T34 l0_0 x5_1).f4)) ∧ w'.cell? (ad466.add ((x5_1).toNat * 5)) = some (.string ((rd_T34 l1_0 x5_1).f0)) ∧ w'.cell? ⟨(ad466.add ((x5_1).toNat * 5)).block, (ad466.add ((x5_1).toNat * 5)).off + 1, none⟩ = some (.slice A466_1 ((rd_T34 l1_0 x5_1).f1).length c466_1) ∧ w'.cell? ⟨(ad466.add ((x5_1).toNat * 5)).block, (ad466.add ((x5_1).toNat * 5)).off + 2, none⟩ = some (.int .i64 ((rd_T34 l1_0 x5_1).f2)) ∧ w'.cell? ⟨(ad466.add ((x5_1).toNat * 5)).block, (ad466.add ((x5_1).toNat * 5)).off + 3, none⟩ = some (.slice A466_3 ((rd_T34 l1_0 x5_1).f3).length c466_3) ∧ w'.cell? ⟨(ad466.add ((x5_1).toNat * 5)).block, (ad466.add ((x5_1).toNat * 5)).off + 4, none⟩ = some (.int .i64 ((rd_T34 l1_0 x5_1).f4))) (ds := []) #[false, false, false, false, false, false, false, false, false, false, false, false] (by kernel_rfl) rfl rfl ⟨(blk_cell BK463.out 0).trans rfl, (blk_cell BK464.out 0).trans rfl, ((HB.out.cell (World.block_lt_of_cell? w _ hw465_0)).trans hw465_0), ((HB.out.cell (World.block_lt_of_cell? w _ hw465_1)).trans hw465_1), ((HB.out.cell (World.block_lt_of_cell? w _ hw465_2)).trans hw465_2), ((HB.out.cell (World.block_lt_of_cell? w _ hw465_3)).trans hw465_3), ((HB.out.cell (World.block_lt_of_cell? w _ hw465_4)).trans hw465_4), ((HB.out.cell (World.block_lt_of_cell? w _ hw466_0)).trans hw466_0), ((HB.out.cell (World.block_lt_of_cell? w _ hw466_1)).trans hw466_1), ((HB.out.cell (World.block_lt_of_cell? w _ hw466_2)).trans hw466_2), ((HB.out.cell (World.block_lt_of_cell? w _ hw466_3)).trans hw466_3), ((HB.out.cell (World.block_lt_of_cell? w _ hw466_4)).trans hw466_4)⟩ (fun hHeld => ?_); refine with_tabW turntableref05_SameProg.tab6 turntableref05_SameProg.bits6 (fun HT_ HW_ => ?_)
        generalize wr.drew = w20 at BK463 BK464 HB HR465_1 HR465_3 HR466_1 HR466_3 hx465_0 hx465_1 hx465_2 hx465_3 hx465_4 hx466_0 hx466_1 hx466_2 hx466_3 hx466_4 hHeld ⊢
        refine pure_ (i := 0) (N := some 20) (v := ?_) (a' := ?_) #[true, false, false, false, false, false, false, false, false, false, false, false] rfl rfl (any_of HT_.out (by kernel_rfl)) (fun _ _ _ h => h) (Or.inl ⟨by rfl, ?_⟩) ?_ ?_
        rotate_left
        ·intro w'
         go_simp
         with_reducible rfl
        rotate_left
        ·simp only [Act.put, List.setIfInBounds_toArray, List.set_cons_zero, List.set_cons_succ, i64_w, i32_w]
         rfl
        refine pure_ (i := 2) (N := some 22) (v := ?_) (a' := ?_) #[true, false, true, false, false, false, false, false, false, false, false, false] rfl rfl (any_of HT_.out (by kernel_rfl)) (fun _ _ _ h => h) (Or.inl ⟨by rfl, ?_⟩) ?_ ?_
        rotate_left
        ·intro w'
         go_simp
         with_reducible rfl
        rotate_left
        ·simp only [Act.put, List.setIfInBounds_toArray, List.set_cons_zero, List.set_cons_succ, i64_w, i32_w]
         rfl
        refine pure_ (i := 5) (N := some 25) (v := ?_) (a' := ?_) #[true, false, true, false, false, true, false, false, false, false, false, false] rfl rfl (any_of HT_.out (by kernel_rfl)) (fun _ _ _ h => h) (Or.inl ⟨by rfl, ?_⟩) ?_ ?_
        rotate_left
        ·intro w'
         go_simp
         with_reducible rfl
        rotate_left
        ·simp only [Act.put, List.setIfInBounds_toArray, List.set_cons_zero, List.set_cons_succ, i64_w, i32_w]
         rfl
        refine pure_ (i := 7) (N := some 27) (v := ?_) (a' := ?_) #[true, false, true, false, false, true, false, true, false, false, false, false] rfl rfl (any_of HT_.out (by kernel_rfl)) (fun _ _ _ h => h) (Or.inl ⟨by rfl, ?_⟩) ?_ ?_
        rotate_left
        ·intro w'
         go_simp
         with_reducible rfl
        rotate_left
        ·simp only [Act.put, List.setIfInBounds_toArray, List.set_cons_zero, List.set_cons_succ, i64_w, i32_w]
         rfl
        refine take_ (i := 1) (N := some 21) (v := ?_) (a' := ?_) #[true, true, true, false, false, true, false, true, false, false, false, false] rfl rfl (take_ofW HT_.out HW_.out (by kernel_rfl)) (fun _ _ _ h => h) (Or.inl ⟨by rfl, ?_⟩) hHeld ?_ ?_
        rotate_left
        ·rintro w' ⟨s0, s1, s2, s3, s4, s5, s6, s7, s8, s9, s10, s11⟩
         go_simp
         with_reducible rfl
        rotate_left
        ·simp only [Act.put, List.setIfInBounds_toArray, List.set_cons_zero, List.set_cons_succ, i64_w, i32_w]
         rfl
        refine pure_ (i := 3) (N := some 23) (v := ?_) (a' := ?_) #[true, true, true, true, false, true, false, true, false, false, false, false] rfl rfl (any_of HT_.out (by kernel_rfl)) (fun _ _ _ h => h) (Or.inl ⟨by rfl, ?_⟩) ?_ ?_
        rotate_left
        ·intro w'
         go_simp
         with_reducible rfl
        rotate_left
        ·simp only [Act.put, List.setIfInBounds_toArray, List.set_cons_zero, List.set_cons_succ, i64_w, i32_w]
         rfl
        refine take_ (i := 4) (N := some 24) (v := ?_) (a' := ?_) #[true, true, true, true, true, true, false, true, false, false, false, false] rfl rfl (take_ofW HT_.out HW_.out (by kernel_rfl)) (fun _ _ _ h => h) (Or.inl ⟨by rfl, ?_⟩) hHeld ?_ ?_
        rotate_left
        ·rintro w' ⟨s0, s1, s2, s3, s4, s5, s6, s7, s8, s9, s10, s11⟩
         go_simp
         with_reducible rfl
        rotate_left
        ·simp only [Act.put, List.setIfInBounds_toArray, List.set_cons_zero, List.set_cons_succ, i64_w, i32_w]
         rfl
        refine take_ (i := 6) (N := some 26) (v := ?_) (a' := ?_) #[true, true, true, true, true, true, true, true, false, false, false, false] rfl rfl (take_ofW HT_.out HW_.out (by kernel_rfl)) (fun _ _ _ h => h) (Or.inl ⟨by rfl, ?_⟩) hHeld ?_ ?_
        rotate_left
        ·rintro w' ⟨s0, s1, s2, s3, s4, s5, s6, s7, s8, s9, s10, s11⟩
         go_simp
         with_reducible rfl
        rotate_left
        ·simp only [Act.put, List.setIfInBounds_toArray, List.set_cons_zero, List.set_cons_succ, i64_w, i32_w]
         rfl
        refine pure_ (i := 8) (N := some 28) (v := ?_) (a' := ?_) #[true, true, true, true, true, true, true, true, true, false, false, false] rfl rfl (any_of HT_.out (by kernel_rfl)) (fun _ _ _ h => h) (Or.inl ⟨by rfl, ?_⟩) ?_ ?_
        rotate_left
        ·intro w'
         go_simp
         with_reducible rfl
        rotate_left
        ·simp only [Act.put, List.setIfInBounds_toArray, List.set_cons_zero, List.set_cons_succ, i64_w, i32_w]
         rfl
        refine take_ (i := 9) (N := some 29) (v := ?_) (a' := ?_) #[true, true, true, true, true, true, true, true, true, true, false, false] rfl rfl (take_ofW HT_.out HW_.out (by kernel_rfl)) (fun _ _ _ h => h) (Or.inl ⟨by rfl, ?_⟩) hHeld ?_ ?_
        rotate_left
        ·rintro w' ⟨s0, s1, s2, s3, s4, s5, s6, s7, s8, s9, s10, s11⟩
         go_simp
         with_reducible rfl
        rotate_left
        ·simp only [Act.put, List.setIfInBounds_toArray, List.set_cons_zero, List.set_cons_succ, i64_w, i32_w]
         rfl
        refine one_ (i := 10) (N := some 30) #[true, true, true, true, true, true, true, true, true, true, true, false] rfl rfl (one_of HT_.out (by kernel_rfl)) (by decide) (fun K hK => ?_)
        refine goes_ Try.func64 (by kernel_rfl) rfl #[.agg #[.string ((rd_T34 l0_0 x5_1).f0), .slice A465_1 ((rd_T34 l0_0 x5_1).f1).length c465_1, .int .i64 ((rd_T34 l0_0 x5_1).f2), .slice A465_3 ((rd_T34 l0_0 x5_1).f3).length c465_3, .int .i64 ((rd_T34 l0_0 x5_1).f4)], .agg #[.string ((rd_T34 l1_0 x5_1).f0), .slice A466_1 ((rd_T34 l1_0 x5_1).f1).length c466_1, .int .i64 ((rd_T34 l1_0 x5_1).f2), .slice A466_3 ((rd_T34 l1_0 x5_1).f3).length c466_3, .int .i64 ((rd_T34 l1_0 x5_1).f4)]] (by rfl) rfl rfl zA ?_
        with_reducible refine (turntableref05_SameFunc.calls k1 ((rd_T34 l0_0 x5_1).f0) _ _ ((rd_T34 l0_0 x5_1).f1) ((rd_T34 l0_0 x5_1).f2) _ _ ((rd_T34 l0_0 x5_1).f3) ((rd_T34 l0_0 x5_1).f4) ((rd_T34 l1_0 x5_1).f0) _ _ ((rd_T34 l1_0 x5_1).f1) ((rd_T34 l1_0 x5_1).f2) _ _ ((rd_T34 l1_0 x5_1).f3) ((rd_T34 l1_0 x5_1).f4) false _ ?side1 ?side2 ?side3 ?side4 ?side5 ?side6 ?side7 ?side8 A12.out).mono ?_
        (case side1 => repeat (first | exact (Kd.C_below HR465_1.out HB.out) | (with_reducible refine Kd.C_alloc ?_ _) | (with_reducible refine Kd.C_drewN ?_ _) | (with_reducible refine Kd.C_drew ?_)))
        (case side2 => exact HC465_1.out)
        (case side3 => repeat (first | exact (Kd.C_below HR465_3.out HB.out) | (with_reducible refine Kd.C_alloc ?_ _) | (with_reducible refine Kd.C_drewN ?_ _) | (with_reducible refine Kd.C_drew ?_)))
        (case side4 => exact HC465_3.out)
        (case side5 => repeat (first | exact (Kd.C_below HR466_1.out HB.out) | (with_reducible refine Kd.C_alloc ?_ _) | (with_reducible refine Kd.C_drewN ?_ _) | (with_reducible refine Kd.C_drew ?_)))
        (case side6 => exact HC466_1.out)
        (case side7 => repeat (first | exact (Kd.C_below HR466_3.out HB.out) | (with_reducible refine Kd.C_alloc ?_ _) | (with_reducible refine Kd.C_drewN ?_ _) | (with_reducible refine Kd.C_drew ?_)))
        (case side8 => exact HC466_3.out)
        rintro e w21 ⟨rfl, hb⟩
        refine ⟨_, rfl, ?_⟩
        have n0_ := Aside0.mk (blk_below (g := gb463) (o := .cells #[.slice (some ad465) l0_0.length c0_0] 24 (0, 0)) (zK BK463.out) hb)
        have n1_ := Aside0.mk (blk_below (g := gb464) (o := .cells #[.slice (some ad466) l1_0.length c1_0] 24 (0, 0)) (zK BK464.out) hb)
        have n2_ := Aside0.mk (below_step (zD HB.out GE463.out GE464.out) hb)
        clear BK463
        clear BK464
        clear HB
        have BK463 := n0_
        have BK464 := n1_
        have HB := n2_
        clear n0_ n1_ n2_
        (try clear hb)
        (try clear hb2)
        (try clear hk)
        (try clear hi)
        refine hK.out _ _ ⟨(blk_cell BK463.out 0).trans rfl, (blk_cell BK464.out 0).trans rfl, ((HB.out.cell (World.block_lt_of_cell? w _ hw465_0)).trans hw465_0), ((HB.out.cell (World.block_lt_of_cell? w _ hw465_1)).trans hw465_1), ((HB.out.cell (World.block_lt_of_cell? w _ hw465_2)).trans hw465_2), ((HB.out.cell (World.block_lt_of_cell? w _ hw465_3)).trans hw465_3), ((HB.out.cell (World.block_lt_of_cell? w _ hw465_4)).trans hw465_4), ((HB.out.cell (World.block_lt_of_cell? w _ hw466_0)).trans hw466_0), ((HB.out.cell (World.block_lt_of_cell? w _ hw466_1)).trans hw466_1), ((HB.out.cell (World.block_lt_of_cell? w _ hw466_2)).trans hw466_2), ((HB.out.cell (World.block_lt_of_cell? w _ hw466_3)).trans hw466_3), ((HB.out.cell (World.block_lt_of_cell? w _ hw466_4)).trans hw466_4)⟩ (fun hHeld => ?_)
        clear hK K
        refine norm_ (a' := ?_) ?_ ?_
        rotate_left
        ·show Act.put _ (some 30) _ = _
         simp only [Act.put, List.setIfInBounds_toArray, List.set_cons_zero, List.set_cons_succ, i64_w, i32_w]
         rfl
        refine pure_ (i := 11) (N := some 31) (v := ?_) (a' := ?_) #[true, true, true, true, true, true, true, true, true, true, true, true] rfl rfl (any_of HT_.out (by kernel_rfl)) (fun _ _ _ h => h) (Or.inl ⟨by rfl, ?_⟩) ?_ ?_
        rotate_left
        ·intro w'
         go_simp
         with_reducible rfl
        rotate_left
        ·simp only [Act.put, List.setIfInBounds_toArray, List.set_cons_zero, List.set_cons_succ, i64_w, i32_w]
         rfl
        refine done_ (done_of HT_.out (by kernel_rfl)) ?_
        try go_wp2
        go_ret
        exact ⟨zF, zD HB.out GE463.out GE464.out⟩
      ·rw [if_neg c11] at H
       exact absurd H (by simp)
     ·rw [if_neg c10] at H
      exact absurd H (by simp)
    ·rw [if_neg c9] at H
     have c9b0 : decide (x5_1 < (l0_0.length : Int)) = false := decide_eq_false c9
     clear c9
     obtain rfl := Option.some.inj H
     have hnb22 := NB463_464.out
     have hnc22 := NB464_463.out
     have hcz23_0 : wr.cell? ⟨gb463, 0, none⟩ = some (.slice A0_0 l0_0.length c0_0) := (blk_cell BK463.out 0).trans rfl
     have hfz23_0 := blk_frozen BK463.out 0
     go_wp2
     go_ret
     exact ⟨zF, zD HB.out GE463.out GE464.out⟩
 ·rw [if_neg c3] at H
  have c3b0 : ((l0_0.length : Int) == (l1_0.length : Int)) = false := beq_eq_false_iff_ne.mpr c3
  have c3b1 : ((l0_0.length : Int) != (l1_0.length : Int)) = true := bne_iff_ne.mpr c3
  have c3b2 : (l0_0.length == l1_0.length) = false := by first | simpa using c3 | (simp at c3 ⊢; omega)
  obtain rfl := Option.some.inj H
  go_enter Try.func26, Try.ntmps26
  go_wp2_with (first | ((with_reducible refine gate_dst (N := 2) rfl ?_); refine box_event ?hg (N := 2) ?hd (cs := #[.slice A0_0 l0_0.length c0_0]) (t := 24) ?hr ?_; (case hd => rfl); (case hg => rfl); (case hr => first | (go_simp; done) | (go_simp; rfl)); intro gb463 hg w24 hbox hb; have n0_ := Aside0.mk (below_step (zB HB.out) hb); have n1_ := Aside0.mk (hbox); have n2_ := Aside0.mk ((by rw [hg]; exact (below_size (zB HB.out)) : w.heap.size ≤ gb463)); have n3_ := Aside0.mk ((by rw [hg]; exact (below_size (zB HB.out)) : w.heap.size ≤ gb463)); clear HB; have HB := n0_; have BK463 := n1_; have GW463 := n2_; have GE463 := n3_; clear n0_ n1_ n2_ n3_; clear hb hbox hg) | ((with_reducible refine gate_dst (N := 3) rfl ?_); refine box_event ?hg (N := 3) ?hd (cs := #[.slice A1_0 l1_0.length c1_0]) (t := 24) ?hr ?_; (case hd => rfl); (case hg => rfl); (case hr => first | (go_simp; done) | (go_simp; rfl)); intro gb464 hg w25 hbox hb; have n0_ := Aside0.mk (blk_below (g := gb463) (o := .cells #[.slice A0_0 l0_0.length c0_0] 24 (0, 0)) (zK BK463.out) hb); have n1_ := Aside0.mk (below_step (zC HB.out GE463.out) hb); have n2_ := Aside0.mk (hbox); have n3_ := Aside0.mk ((by rw [hg]; exact (below_size (zC HB.out GE463.out)) : w.heap.size ≤ gb464)); have n4_ := Aside0.mk ((by rw [hg]; exact (below_size (zC HB.out GE463.out)) : w.heap.size ≤ gb464)); have n5_ := Aside0.mk ((by rw [hg]; exact Nat.ne_of_lt (blk_lt (g := gb463) (o := .cells #[.slice A0_0 l0_0.length c0_0] 24 (0, 0)) (zK BK463.out)) : gb463 ≠ gb464)); have n6_ := Aside0.mk ((by rw [hg]; exact Nat.ne_of_gt (blk_lt (g := gb463) (o := .cells #[.slice A0_0 l0_0.length c0_0] 24 (0, 0)) (zK BK463.out)) : gb464 ≠ gb463)); clear BK463; clear HB; have BK463 := n0_; have HB := n1_; have BK464 := n2_; have GW464 := n3_; have GE464 := n4_; have NB463_464 := n5_; have NB464_463 := n6_; clear n0_ n1_ n2_ n3_ n4_ n5_ n6_; clear hb hbox hg; have hnb26 := NB463_464.out; have hnc26 := NB464_463.out; have hcz27_0 : w25.cell? ⟨gb463, 0, none⟩ = some (.slice A0_0 l0_0.length c0_0) := (blk_cell BK463.out 0).trans rfl; have hfz27_0 := blk_frozen BK463.out 0; have hcz28_0 : w25.cell? ⟨gb464, 0, none⟩ = some (.slice A1_0 l1_0.length c1_0) := (blk_cell BK464.out 0).trans rfl; have hfz28_0 := blk_frozen BK464.out 0))
  go_ret
  exact ⟨zF, zD HB.out GE463.out GE464.out⟩
end Go.Proofs.Ytkjdblbgmomieaa.PSh
end
-- from YtkjdblbgmomieaaHPJoins
section
namespace Go.Proofs.Ytkjdblbgmomieaa.PSh
open Go.RowKit Go.Proofs.YtkjdblbgmomieaaW.PrintWords Go.Proofs.YtkjdblbgmomieaaW.PrintLast Go.Proofs.YtkjdblbgmomieaaW.PrintMore Go.Proofs.Ytkjdblbgmomieaa.Str
set_option linter.unusedVariables false
set_option linter.unusedSimpArgs false
def turntablelaw06_ParseJoins.f (k : Nat) (s t : ByteArray) : Option Bool :=
  if 1500 < s.size then some true else if 1500 < t.size then some true else (parse_Text.f s).bind fun p => (parse_Text.f t).bind fun q => if p.2.1 = 0 then (if q.2.1 = 0 then (if 32 < p.1.length + q.1.length then some true else (parse_Text.f ((s ++ (⟨#[10]⟩ : ByteArray)) ++ t)).bind fun r => if r.2.1 = 0 then (turntableref05_SameProg.f k r.1 (p.1 ++ q.1)).bind fun b => if b = true then some true else none else none) else some true) else some true
theorem parse_few {s : ByteArray} {fs : List SF} {c p : Int} (hs : s.size ≤ 3001) (h : parse_Text.f s = some (fs, c, p)) : fs.length ≤ 32 := by
  unfold parse_Text.f at h
  split at h
  · injection h with h
    have e : fs = (parseP s).1 := by rw [h]
    by_cases hc : (parseP s).2.1 = 0
    · obtain ⟨c1, t1⟩ := parse_ok hc
      have l1 := split_len (by omega) c1
      have := text_num (L := 100000) _ _ _ _ _ t1 (by omega) (by simp) (fun _ h => by cases h)
      rw [e]
      exact this.1
    · rw [e]
      revert hc
      unfold parseP
      by_cases c1 : (splitL s).2.1 = 0
      · rw [if_pos c1]
        cases textP (s.size : Int) ((splitL s).1.length + 1) [] 0 (splitL s).1 with
        | error x => intro _; simp
        | ok g => intro q; exact absurd rfl q
      · rw [if_neg c1]; intro _; simp
  · cases h
theorem func_info : (Try.prog.info? 34).map (fun i => (i.zero, i.size, i.bytes)) = some (some (.agg #[.string ⟨#[]⟩, .slice none 0 0, .int .i64 0, .slice none 0 0, .int .i64 0]), k34.sz, 80) := by kernel_rfl
structure JAt (b : Nat) (v : Value) (xs : List SF) (Wf W : World) : Prop where
  box : W.heap[b]? = some (.cells #[v] 24 (0, 0))
  row : (Kd.fixed k34 Wf).R 34 W Wf.heap.size (fun _ => True) v xs
  ge : Wf.heap.size ≤ b
  bel : Below Wf.heap.size Wf W
section
variable {b : Nat} {v v1 : Value} {xs ys : List SF} {Wf w1 w2 : World}
theorem JAt.size (h : JAt b v xs Wf w1) : Wf.heap.size ≤ w1.heap.size := below_size h.bel
theorem JAt.put (h : JAt b v xs Wf w1) (hr : (Kd.fixed k34 Wf).R 34 w2 Wf.heap.size (fun _ => True) v1 ys) (hg : w1.grownBy w2 v.ownBlock) : JAt b v1 ys Wf (w2.setCell ⟨b, 0, none⟩ v1) := by
  have hx := (hg.block b (blk_lt h.box) (Kd.R_ne h.row h.box (by decide))).trans h.box
  exact ⟨blk_put hx 0 v1 rfl, Kd.R_set hr hx (show ∀ q, q ∈ [34] → q ≠ 24 by decide) 0 v1, h.ge, below_set (pw_below_grown h.bel v.ownBlock h.size hg (fun k e => Kd.R_base h.row k e)) h.ge⟩
theorem JAt.reads (h : JAt b v xs Wf w1) : ∃ A c, v = .slice A xs.length c ∧ xs.length ≤ c ∧ Kd.C k34 w1 A xs.length xs := by
  obtain ⟨A, c, e, hl, hC⟩ := Kd.R_reads h.row
  exact ⟨A, c, e, hl, ReadsRow.imp_ hC (Below.refl _ _) (fun p cs hk => k34.K_below h.bel hk)⟩
end
set_option maxHeartbeats 8000000 in
set_option maxRecDepth 100000 in
theorem turntablelaw06_ParseJoins.calls (k : Nat) (s t : ByteArray) (r : Bool) (w : World) (h : turntablelaw06_ParseJoins.f k s t = some r) :
    Calls Try.prog 7 #[.string s, .string t] w fun e w' => e = .returned (.bool r) ∧ Below w.heap.size w w' := by
  have hu24 := Try.underlying24
  have hu28 := Try.underlying28
  have hu34 := Try.underlying34
  unfold turntablelaw06_ParseJoins.f at h
  by_cases hbig : 1500 < s.size
  · rw [if_pos hbig] at h
    obtain rfl := Option.some.inj h
    have d0 : decide (1500 < (s.size : Int)) = true := decide_eq_true (by omega)
    have d1 : decide (1500 < s.size) = true := decide_eq_true hbig
    clear hbig h
    go_enter Try.func7, Try.ntmps7
    have HB1 := Aside0.mk (Below.refl w.heap.size w)
    go_wp2_with fail
    refine (turntablelaw06_works.calls true _ rfl).mono ?_
    rintro e w9 ⟨rfl, hb_⟩
    have HB9 := Aside0.mk (below_step HB1.out hb_)
    clear hb_
    go_wp2
    (try simp only [Exit.inBlock, Exit.then])
    go_ret
    exact ⟨rfl, HB9.out⟩
  rw [if_neg hbig] at h
  have d0 : decide (1500 < (s.size : Int)) = false := decide_eq_false (by omega)
  have d1 : decide (1500 < s.size) = false := decide_eq_false hbig
  by_cases hbig2 : 1500 < t.size
  · rw [if_pos hbig2] at h
    obtain rfl := Option.some.inj h
    have d2 : decide (1500 < (t.size : Int)) = true := decide_eq_true (by omega)
    have d3 : decide (1500 < t.size) = true := decide_eq_true hbig2
    clear hbig hbig2 h
    go_enter Try.func7, Try.ntmps7
    have HB1 := Aside0.mk (Below.refl w.heap.size w)
    go_wp2_with fail
    refine (turntablelaw06_works.calls true _ rfl).mono ?_
    rintro e w9 ⟨rfl, hb_⟩
    have HB9 := Aside0.mk (below_step HB1.out hb_)
    clear hb_
    go_wp2
    (try simp only [Exit.inBlock, Exit.then])
    go_ret
    exact ⟨rfl, HB9.out⟩
  rw [if_neg hbig2] at h
  have d2 : decide (1500 < (t.size : Int)) = false := decide_eq_false (by omega)
  have d3 : decide (1500 < t.size) = false := decide_eq_false hbig2
  have HSZ := Aside0.mk (show s.size ≤ 1500 by omega)
  have HTZ := Aside0.mk (show t.size ≤ 1500 by omega)
  clear hbig hbig2
  obtain ⟨⟨fs, q1, q2⟩, hq, h⟩ := Option.bind_eq_some_iff.mp h
  obtain ⟨⟨gs, p1, p2⟩, hp, h⟩ := Option.bind_eq_some_iff.mp h
  simp only at h
  have hf32 := Aside0.mk (parse_few (by have := HSZ.out; omega) hq)
  have hg32 := Aside0.mk (parse_few (by have := HTZ.out; omega) hp)
  have HQ := Aside0.mk hq
  have HP := Aside0.mk hp
  have HH := Aside0.mk h
  clear hq hp h
  go_enter Try.func7, Try.ntmps7
  go_wp2_with fail
  refine (parse_Text.calls s fs q1 q2 _ HQ.out).mono ?_
  rintro e v1_ ⟨v_, rfl, hr_, hb_⟩
  obtain ⟨A1, c1, e_, hl1, hC1⟩ := Kd.R_reads hr_
  subst e_
  have hq_ := below_alloc (below_alloc (Below.refl v1_.heap.size v1_) (.cells #[.slice A1 fs.length c1] 24)) (.cells #[.int .i64 q1, .int .i64 q2] 28)
  have HB1 := Aside0.mk (below_step hb_ hq_)
  have k1_ := blk_alloc (blk_new v1_ (.cells #[.slice A1 fs.length c1] 24)) (.cells #[.int .i64 q1, .int .i64 q2] 28)
  have k2_ := blk_new (v1_.alloc (.cells #[.slice A1 fs.length c1] 24)) (.cells #[.int .i64 q1, .int .i64 q2] 28)
  rw [show (v1_.alloc (.cells #[.slice A1 fs.length c1] 24)).heap.size = v1_.heap.size + 1 by simp] at k2_
  have HC1 := Aside0.mk (Kd.C_below hC1 hq_)
  have HL1 := Aside0.mk hl1
  clear hr_ hb_ hC1 hl1 d0 d1 d2 d3
  go_upto_region 4 with (fail)
  generalize ((v1_.alloc (.cells #[.slice A1 fs.length c1] 24)).alloc (.cells #[.int .i64 q1, .int .i64 q2] 28)) = W1 at k1_ k2_ HB1 HC1 ⊢
  clear hq_
  generalize v1_.heap.size + 1 = be1 at k2_ ⊢
  generalize v1_.heap.size = bp1 at k1_ ⊢
  have KP1 := Aside0.mk k1_
  have KE1 := Aside0.mk k2_
  clear k1_ k2_
  go_wp2_with fail
  refine (parse_Text.calls t gs p1 p2 _ HP.out).mono ?_
  rintro e v2_ ⟨v_, rfl, hr_, hb_⟩
  obtain ⟨A2, c2, e_, hl2, hC2⟩ := Kd.R_reads hr_
  subst e_
  have hq_ := below_alloc (below_alloc (Below.refl v2_.heap.size v2_) (.cells #[.slice A2 gs.length c2] 24)) (.cells #[.int .i64 p1, .int .i64 p2] 28)
  have hb2_ := below_step hb_ hq_
  have HB2 := Aside0.mk (below_step HB1.out hb2_)
  have k1_ := blk_alloc (blk_new v2_ (.cells #[.slice A2 gs.length c2] 24)) (.cells #[.int .i64 p1, .int .i64 p2] 28)
  have k2_ := blk_new (v2_.alloc (.cells #[.slice A2 gs.length c2] 24)) (.cells #[.int .i64 p1, .int .i64 p2] 28)
  rw [show (v2_.alloc (.cells #[.slice A2 gs.length c2] 24)).heap.size = v2_.heap.size + 1 by simp] at k2_
  have KP1b := Aside0.mk (blk_below KP1.out hb2_)
  have KE1b := Aside0.mk (blk_below KE1.out hb2_)
  have HC1b := Aside0.mk (Kd.C_below HC1.out hb2_)
  have HC2 := Aside0.mk (Kd.C_below hC2 hq_)
  have HL2 := Aside0.mk hl2
  clear hr_ hb_ hC2 hl2 HC1 KP1 KE1 HB1 hb2_
  go_upto_region 5 with (fail)
  generalize ((v2_.alloc (.cells #[.slice A2 gs.length c2] 24)).alloc (.cells #[.int .i64 p1, .int .i64 p2] 28)) = W2 at k1_ k2_ HB2 HC2 KP1b KE1b HC1b ⊢
  clear hq_
  generalize v2_.heap.size + 1 = be2 at k2_ ⊢
  generalize v2_.heap.size = bp2 at k1_ ⊢
  have KP2 := Aside0.mk k1_
  have KE2 := Aside0.mk k2_
  have z0 := blk_cell KE1b.out 0
  have z2 := blk_cell KE2.out 0
  have z4 := blk_cell KP1b.out 0
  have z5 := blk_cell KP2.out 0
  have h := HH.out
  clear k1_ k2_ HH
  by_cases cq : q1 = 0
  rotate_left
  · rw [if_neg cq] at h
    obtain rfl := Option.some.inj h
    have g1 : (q1 != 0) = true := bne_iff_ne.mpr cq
    clear cq h
    go_wp2_with fail
    refine (turntablelaw06_works.calls true _ rfl).mono ?_
    rintro e w9 ⟨rfl, hb_⟩
    have HB9 := Aside0.mk (below_step HB2.out hb_)
    clear hb_
    go_wp2
    (try simp only [Exit.inBlock, Exit.then])
    go_ret
    exact ⟨rfl, HB9.out⟩
  rw [if_pos cq] at h
  have g1 : (q1 != 0) = false := bne_eq_false_iff_eq.mpr cq
  by_cases cp : p1 = 0
  rotate_left
  · rw [if_neg cp] at h
    obtain rfl := Option.some.inj h
    have g2 : (p1 != 0) = true := bne_iff_ne.mpr cp
    clear cq cp h
    go_wp2_with fail
    refine (turntablelaw06_works.calls true _ rfl).mono ?_
    rintro e w9 ⟨rfl, hb_⟩
    have HB9 := Aside0.mk (below_step HB2.out hb_)
    clear hb_
    go_wp2
    (try simp only [Exit.inBlock, Exit.then])
    go_ret
    exact ⟨rfl, HB9.out⟩
  rw [if_pos cp] at h
  have g2 : (p1 != 0) = false := bne_eq_false_iff_eq.mpr cp
  have hw : wrap64 ((fs.length : Int) + (gs.length : Int)) = ((fs.length + gs.length : Nat) : Int) := by
    rw [w64 (by have := hf32.out; omega) (by have := hf32.out; have := hg32.out; omega)]
    omega
  by_cases cl : 32 < fs.length + gs.length
  · rw [if_pos cl] at h
    obtain rfl := Option.some.inj h
    have g3 : decide (32 < wrap64 ((fs.length : Int) + (gs.length : Int))) = true := decide_eq_true (by rw [hw]; omega)
    clear cq cp cl h hw
    go_wp2_with fail
    refine (turntablelaw06_works.calls true _ rfl).mono ?_
    rintro e w9 ⟨rfl, hb_⟩
    have HB9 := Aside0.mk (below_step HB2.out hb_)
    clear hb_
    go_wp2
    (try simp only [Exit.inBlock, Exit.then])
    go_ret
    exact ⟨rfl, HB9.out⟩
  rw [if_neg cl] at h
  have g3 : decide (32 < wrap64 ((fs.length : Int) + (gs.length : Int))) = false := decide_eq_false (by rw [hw]; omega)
  clear cq cp cl hw
  obtain ⟨⟨hs, n1, n2⟩, hr, h⟩ := Option.bind_eq_some_iff.mp h
  simp only at h
  have HR := Aside0.mk hr
  have HH := Aside0.mk h
  clear hr h
  have e10 : (s ++ (⟨#[10]⟩ : ByteArray)).size = s.size + 1 := by rw [ByteArray.size_append]; rfl
  have f1 : (9223372036854775807 < s.size + 1) = False := eq_false (by have := HSZ.out; omega)
  have f2 : (9223372036854775807 < (s ++ (⟨#[10]⟩ : ByteArray)).size + t.size) = False := eq_false (by have := HSZ.out; have := HTZ.out; rw [e10]; omega)
  have f3 : (9223372036854775807 < s.size + 1 + t.size) = False := eq_false (by have := HSZ.out; have := HTZ.out; omega)
  have f4 : (9223372036854775807 < s.size + (⟨#[10]⟩ : ByteArray).size + t.size) = False := f3
  clear e10
  go_upto_region 7 with (fail)
  clear z0 z2 z4 z5 g1 g2 g3
  go_wp2_with fail
  refine (parse_Text.calls _ hs n1 n2 _ HR.out).mono ?_
  rintro e v3_ ⟨v_, rfl, hr_, hb_⟩
  obtain ⟨A3, c3, e_, hl3, hC3⟩ := Kd.R_reads hr_
  subst e_
  have hq_ := below_alloc (below_alloc (Below.refl v3_.heap.size v3_) (.cells #[.slice A3 hs.length c3] 24)) (.cells #[.int .i64 n1, .int .i64 n2] 28)
  have hb3_ := below_step hb_ hq_
  have HB3 := Aside0.mk (below_step HB2.out hb3_)
  have k1_ := blk_alloc (blk_new v3_ (.cells #[.slice A3 hs.length c3] 24)) (.cells #[.int .i64 n1, .int .i64 n2] 28)
  have k2_ := blk_new (v3_.alloc (.cells #[.slice A3 hs.length c3] 24)) (.cells #[.int .i64 n1, .int .i64 n2] 28)
  rw [show (v3_.alloc (.cells #[.slice A3 hs.length c3] 24)).heap.size = v3_.heap.size + 1 by simp] at k2_
  have KP1c := Aside0.mk (blk_below KP1b.out hb3_)
  have KP2c := Aside0.mk (blk_below KP2.out hb3_)
  have HC1c := Aside0.mk (Kd.C_below HC1b.out hb3_)
  have HC2c := Aside0.mk (Kd.C_below HC2.out hb3_)
  have HC3 := Aside0.mk (Kd.C_below hC3 hq_)
  have HL3 := Aside0.mk hl3
  clear hr_ hb_ hC3 hl3 HC1b HC2 KP1b KP2 KE1b KE2 HB2 hb3_ f1 f2 f3 f4
  go_upto_region 8 with (fail)
  generalize ((v3_.alloc (.cells #[.slice A3 hs.length c3] 24)).alloc (.cells #[.int .i64 n1, .int .i64 n2] 28)) = W3 at k1_ k2_ HB3 HC1c HC2c HC3 KP1c KP2c ⊢
  clear hq_
  generalize v3_.heap.size + 1 = be3 at k2_ ⊢
  generalize v3_.heap.size = bp3 at k1_ ⊢
  have KP3 := Aside0.mk k1_
  have KE3 := Aside0.mk k2_
  clear k1_ k2_
  go_upto_region 9 with (fail)
  have HX0 := Aside0.mk (show JAt W3.heap.size (.slice none 0 0) [] W3 (W3.alloc (.cells #[.slice none 0 0] 24)) from ⟨blk_new W3 _, Kd.R_nil _ _ _ _ _, Nat.le_refl _, below_alloc (Below.refl _ _) _⟩)
  generalize W3.alloc (.cells #[.slice none 0 0] 24) = W4 at HX0 ⊢
  have y0 := blk_cell HX0.out.box 0
  have y1 := blk_cell (blk_below KP1c.out HX0.out.bel) 0
  go_upto_region 10 with (first | ((with_reducible refine gate_builtin (b := .append) (xs := #[.tmp 60, .tmp 62]) rfl ?_); at_builtin; refine Kd.R_append_rows (Kd.fixed k34 W3) (Rr := k34.K W3) W3.heap.size rfl (.tmp 60) (.tmp 62) 22 34 (.agg #[.string ⟨#[]⟩, .slice none 0 0, .int .i64 0, .slice none 0 0, .int .i64 0]) 80 rfl Try.underlying22 func_info rfl (show 0 < k34.sz by decide) (by omega) (.slice none 0 0) [] fs A1 fs.length c1 (fun _ => True) (fun _ => False) rfl rfl HX0.out.row (ReadsRow.imp_ HC1c.out HX0.out.bel (fun p cs hk => hk)) (fun x cs hk => hk) (fun k hk => hk.elim) (fun k hk => trivial) HX0.out.bel HX0.out.size (by have := hf32.out; simp; omega) ?_; intro v1 w4_ hr4 hb4 hg4 hv4; rw [List.nil_append] at hr4; obtain ⟨A4, c4, e4⟩ := Kd.R_slice hr4; subst e4; have HX1 := Aside0.mk (HX0.out.put hr4 hg4); have B4 := (hg4.block W3.heap.size (blk_lt HX0.out.box) (Kd.R_ne HX0.out.row HX0.out.box (by decide))).trans HX0.out.box; have y2 := blk_cell B4 0; have y3 := blk_frozen B4 0; clear hr4 hb4 hg4 hv4 B4))
  clear y0 y1 y2 y3 HX0
  generalize w4_.setCell ⟨W3.heap.size, 0, none⟩ (.slice A4 fs.length c4) = W5 at HX1 ⊢
  have y0 := blk_cell HX1.out.box 0
  have y1 := blk_cell (blk_below KP2c.out HX1.out.bel) 0
  go_upto_region 11 with (first | ((with_reducible refine gate_builtin (b := .append) (xs := #[.tmp 66, .tmp 68]) rfl ?_); at_builtin; refine Kd.R_append_rows (Kd.fixed k34 W3) (Rr := k34.K W3) W3.heap.size rfl (.tmp 66) (.tmp 68) 22 34 (.agg #[.string ⟨#[]⟩, .slice none 0 0, .int .i64 0, .slice none 0 0, .int .i64 0]) 80 rfl Try.underlying22 func_info rfl (show 0 < k34.sz by decide) (by omega) (.slice A4 fs.length c4) fs gs A2 gs.length c2 (fun _ => True) (fun _ => False) rfl rfl HX1.out.row (ReadsRow.imp_ HC2c.out HX1.out.bel (fun p cs hk => hk)) (fun x cs hk => hk) (fun k hk => hk.elim) (fun k hk => trivial) HX1.out.bel HX1.out.size (by have := hf32.out; have := hg32.out; omega) ?_; intro v1 w6_ hr4 hb4 hg4 hv4; obtain ⟨A6, c6, e4⟩ := Kd.R_slice hr4; rw [List.length_append] at e4; subst e4; have HX2 := Aside0.mk (HX1.out.put hr4 hg4); have B4 := (hg4.block W3.heap.size (blk_lt HX1.out.box) (Kd.R_ne HX1.out.row HX1.out.box (by decide))).trans HX1.out.box; have y2 := blk_cell B4 0; have y3 := blk_frozen B4 0; clear hr4 hb4 hg4 hv4 B4))
  clear y0 y1 y2 y3 HX1
  generalize w6_.setCell ⟨W3.heap.size, 0, none⟩ (.slice A6 (fs.length + gs.length) c6) = W7 at HX2 ⊢
  obtain ⟨A7, c7, e7, hl7, hC7⟩ := HX2.out.reads
  injection e7 with e7a e7b e7c
  subst e7a e7c
  have HC7 := Aside0.mk hC7
  have HL7 := Aside0.mk hl7
  clear hC7 hl7 e7b
  have y0 := blk_cell HX2.out.box 0
  have y1 := blk_cell (blk_below KP3.out HX2.out.bel) 0
  have y2 := blk_cell (blk_below KE3.out HX2.out.bel) 0
  have HC8 := Aside0.mk (Kd.C_below HC3.out HX2.out.bel)
  have h := HH.out
  clear HH
  by_cases cn : n1 = 0
  rotate_left
  · rw [if_neg cn] at h
    cases h
  rw [if_pos cn] at h
  obtain ⟨bb, hbb, h⟩ := Option.bind_eq_some_iff.mp h
  by_cases cb : bb = true
  rotate_left
  · rw [if_neg cb] at h
    cases h
  rw [if_pos cb] at h
  subst cb
  obtain rfl := Option.some.inj h
  have g1 : (n1 == 0) = true := beq_iff_eq.mpr cn
  have HS := Aside0.mk hbb
  clear cn h hbb
  have hsp := turntableref05_SameProg.calls k _ _ hs _ _ (fs ++ gs) true _ HC8.out HL3.out HC7.out HL7.out HS.out
  rw [List.length_append] at hsp
  go_wp2_with fail
  refine hsp.mono ?_
  rintro e w8 ⟨rfl, hb_⟩
  have HB8 := Aside0.mk (below_step HB3.out (below_step HX2.out.bel hb_))
  clear hb_ hsp
  go_wp2_with fail
  refine (turntablelaw06_works.calls true _ rfl).mono ?_
  rintro e w9 ⟨rfl, hb_⟩
  have HB9 := Aside0.mk (below_step HB8.out hb_)
  clear hb_
  go_wp2
  (try simp only [Exit.inBlock, Exit.then])
  go_ret
  exact ⟨rfl, HB9.out⟩
end Go.Proofs.Ytkjdblbgmomieaa.PSh
end
