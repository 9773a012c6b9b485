import Derived.Test.YtkjdblbgmomieaaMj2
import Derived.Test.YtkjdblbgmomieaaMj16
import Derived.Test.YtkjdblbgmomieaaMj3
-- from YtkjdblbgmomieaaPShx32
section
namespace Go.Proofs.Ytkjdblbgmomieaa.PSh
open Go.RowKit Go.Proofs.YtkjdblbgmomieaaW.PrintWords Go.Proofs.YtkjdblbgmomieaaW.PrintLast Go.Proofs.YtkjdblbgmomieaaW.PrintMore Go.Proofs.Ytkjdblbgmomieaa.Zip
attribute [local go_sem] max2_int min2_int max_two min_two max_three min_three max_four min_four   -- for this text's walks alone
set_option linter.unusedVariables false
set_option linter.unusedSimpArgs false
mutual
def turntableref05_SameFunc.j0 : Nat → Bool → ByteArray → List Int → Int → List (List (S39)) → Int → ByteArray → List Int → Int → List (List (S39)) → Int → Option (Bool)
 | 0, _, _, _, _, _, _, _, _, _, _, _ => none
 | k + 1, x35, x453000, x453001, x453002, x453003, x453004, x454000, x454001, x454002, x454003, x454004 => if x35 = true then (some false) else (turntableref05_SameFunc.l0 k 0 x453000 x453001 x453002 x453003 x453004 x454000 x454001 x454002 x454003 x454004)
def turntableref05_SameFunc.l0 : Nat → Int → ByteArray → List Int → Int → List (List (S39)) → Int → ByteArray → List Int → Int → List (List (S39)) → Int → Option (Bool)
 | 0, _, _, _, _, _, _, _, _, _, _, _ => none
 | k + 1, x5, x453000, x453001, x453002, x453003, x453004, x454000, x454001, x454002, x454003, x454004 => if x5 < (x453003.length : Int) then (if 0 ≤ x5 then (if x5 < (x454003.length : Int) then (if ((rd_L4 x453003 x5).length : Int) = ((rd_L4 x454003 x5).length : Int) then (turntableref05_SameFunc.l1 k x5 0 x453000 x453001 x453002 x453003 x453004 x454000 x454001 x454002 x454003 x454004) else (some false)) else (none)) else (none)) else (some true)
def turntableref05_SameFunc.l1 : Nat → Int → Int → ByteArray → List Int → Int → List (List (S39)) → Int → ByteArray → List Int → Int → List (List (S39)) → Int → Option (Bool)
 | 0, _, _, _, _, _, _, _, _, _, _, _, _ => none
 | k + 1, x5, x6, x453000, x453001, x453002, x453003, x453004, x454000, x454001, x454002, x454003, x454004 => if 0 ≤ x5 then (if x5 < (x453003.length : Int) then (if x6 < ((rd_L4 x453003 x5).length : Int) then (if 0 ≤ x6 then (if x5 < (x454003.length : Int) then (if x6 < ((rd_L4 x454003 x5).length : Int) then ((turntableref05_Same.f k ((rd_T39 (rd_L4 x453003 x5) x6).f0) ((rd_T39 (rd_L4 x453003 x5) x6).f1) ((rd_T39 (rd_L4 x453003 x5) x6).f2) ((rd_T39 (rd_L4 x453003 x5) x6).f3) ((rd_T39 (rd_L4 x453003 x5) x6).f4) ((rd_T39 (rd_L4 x453003 x5) x6).f5) ((rd_T39 (rd_L4 x453003 x5) x6).f6) ((rd_T39 (rd_L4 x453003 x5) x6).f7) ((rd_T39 (rd_L4 x454003 x5) x6).f0) ((rd_T39 (rd_L4 x454003 x5) x6).f1) ((rd_T39 (rd_L4 x454003 x5) x6).f2) ((rd_T39 (rd_L4 x454003 x5) x6).f3) ((rd_T39 (rd_L4 x454003 x5) x6).f4) ((rd_T39 (rd_L4 x454003 x5) x6).f5) ((rd_T39 (rd_L4 x454003 x5) x6).f6) ((rd_T39 (rd_L4 x454003 x5) x6).f7)).bind fun t462 => (if t462 = true then (turntableref05_SameFunc.l1 k x5 (wrap64 (x6 + 1)) x453000 x453001 x453002 x453003 x453004 x454000 x454001 x454002 x454003 x454004) else (some false))) else (none)) else (none)) else (none)) else (turntableref05_SameFunc.l0 k (wrap64 (x5 + 1)) x453000 x453001 x453002 x453003 x453004 x454000 x454001 x454002 x454003 x454004)) else (none)) else (none)
end
def turntableref05_SameFunc.f (k : Nat) (a0_0 : ByteArray) (l0_1 : List Int) (a0_2 : Int) (l0_3 : List (List (S39))) (a0_4 : Int) (a1_0 : ByteArray) (l1_1 : List Int) (a1_2 : Int) (l1_3 : List (List (S39))) (a1_4 : Int) : Option (Bool) := if a0_0.toList = a1_0.toList then (if a0_2 = a1_2 then ((turntableref05_Ints.f k l0_1 l1_1).bind fun t454 => (if t454 = true then (turntableref05_SameFunc.j0 k ((l0_3.length : Int) != (l1_3.length : Int)) a0_0 l0_1 a0_2 l0_3 a0_4 a1_0 l1_1 a1_2 l1_3 a1_4) else (turntableref05_SameFunc.j0 k true a0_0 l0_1 a0_2 l0_3 a0_4 a1_0 l1_1 a1_2 l1_3 a1_4))) else (turntableref05_SameFunc.j0 k true a0_0 l0_1 a0_2 l0_3 a0_4 a1_0 l1_1 a1_2 l1_3 a1_4)) else (turntableref05_SameFunc.j0 k true a0_0 l0_1 a0_2 l0_3 a0_4 a1_0 l1_1 a1_2 l1_3 a1_4)
def turntableref05_SameFunc.T6 : Bool × List (List Nat × List Nat) := (true, [([], []), ([0], [0]), ([], []), ([1, 2], [1, 2]), ([3], [3]), ([4], [4]), ([], []), ([6], [6]), ([], []), ([7, 8], [7, 8]), ([9], [9]), ([10], [10]), ([5, 11], [5, 11])])
def turntableref05_SameFunc.B6 : List Nat := [0, 1, 0, 7, 15, 31, 0, 64, 0, 448, 960, 1984, 4095]
theorem turntableref05_SameFunc.tab6 : rtab .any (opsOf Try.f64 6) = turntableref05_SameFunc.T6 := by kernel_rfl
theorem turntableref05_SameFunc.bits6 : waitsOk turntableref05_SameFunc.T6.2 turntableref05_SameFunc.B6 = true := by kernel_rfl
def turntableref05_SameFunc.T11 : Bool × List (List Nat × List Nat) := (true, [([], []), ([0], [0]), ([], []), ([1, 2], [1, 2]), ([3], [3]), ([], []), ([4, 5], [4, 5]), ([6], [6]), ([], []), ([8], [8]), ([], []), ([9, 10], [9, 10]), ([11], [11]), ([], []), ([12, 13], [12, 13]), ([14], [14]), ([7, 15], [7, 15]), ([16], [16])])
def turntableref05_SameFunc.B11 : List Nat := [0, 1, 0, 7, 15, 0, 63, 127, 0, 256, 0, 1792, 3840, 0, 16128, 32512, 65535, 131071]
theorem turntableref05_SameFunc.tab11 : rtab .any (opsOf Try.f64 11) = turntableref05_SameFunc.T11 := by kernel_rfl
theorem turntableref05_SameFunc.bits11 : waitsOk turntableref05_SameFunc.T11.2 turntableref05_SameFunc.B11 = true := by kernel_rfl
set_option maxHeartbeats 8000000 in
set_option maxRecDepth 100000 in
theorem turntableref05_SameFunc.calls (k : Nat) (a0_0 : ByteArray) (A0_1 : Option Addr) (c0_1 : Nat) (l0_1 : List Int) (a0_2 : Int) (A0_3 : Option Addr) (c0_3 : Nat) (l0_3 : List (List (S39))) (a0_4 : Int) (a1_0 : ByteArray) (A1_1 : Option Addr) (c1_1 : Nat) (l1_1 : List Int) (a1_2 : Int) (A1_3 : Option Addr) (c1_3 : Nat) (l1_3 : List (List (S39))) (a1_4 : Int) (r : Bool) (w : World) (hr0_1 : Kd.C (Kd.int .i64) w A0_1 l0_1.length l0_1) (hc0_1 : l0_1.length ≤ c0_1) (hr0_3 : Kd.C (Kd.slice 39 k39) w A0_3 l0_3.length l0_3) (hc0_3 : l0_3.length ≤ c0_3) (hr1_1 : Kd.C (Kd.int .i64) w A1_1 l1_1.length l1_1) (hc1_1 : l1_1.length ≤ c1_1) (hr1_3 : Kd.C (Kd.slice 39 k39) w A1_3 l1_3.length l1_3) (hc1_3 : l1_3.length ≤ c1_3) (h : turntableref05_SameFunc.f k a0_0 l0_1 a0_2 l0_3 a0_4 a1_0 l1_1 a1_2 l1_3 a1_4 = some r) :
  Calls Try.prog 64 #[.agg #[.string a0_0, .slice A0_1 l0_1.length c0_1, .int .i64 a0_2, .slice A0_3 l0_3.length c0_3, .int .i64 a0_4], .agg #[.string a1_0, .slice A1_1 l1_1.length c1_1, .int .i64 a1_2, .slice A1_3 l1_3.length c1_3, .int .i64 a1_4]] w fun e w' => e = .returned (.bool r) ∧ Below w.heap.size w w' := by
 have hu34 := Try.underlying34
 have hu39 := Try.underlying39
 have HR0_1 := Aside0.mk hr0_1
 have HC0_1 := Aside0.mk hc0_1
 clear hr0_1 hc0_1
 have HR0_3 := Aside0.mk hr0_3
 have HC0_3 := Aside0.mk hc0_3
 clear hr0_3 hc0_3
 have HR1_1 := Aside0.mk hr1_1
 have HC1_1 := Aside0.mk hc1_1
 clear hr1_1 hc1_1
 have HR1_3 := Aside0.mk hr1_3
 have HC1_3 := Aside0.mk hc1_3
 clear hr1_3 hc1_3
 have HB := Aside0.mk (Below.refl w.heap.size w)
 have H : (if a0_0.toList = a1_0.toList then (if a0_2 = a1_2 then ((turntableref05_Ints.f k l0_1 l1_1).bind fun t454 => (if t454 = true then (turntableref05_SameFunc.j0 k ((l0_3.length : Int) != (l1_3.length : Int)) a0_0 l0_1 a0_2 l0_3 a0_4 a1_0 l1_1 a1_2 l1_3 a1_4) else (turntableref05_SameFunc.j0 k true a0_0 l0_1 a0_2 l0_3 a0_4 a1_0 l1_1 a1_2 l1_3 a1_4))) else (turntableref05_SameFunc.j0 k true a0_0 l0_1 a0_2 l0_3 a0_4 a1_0 l1_1 a1_2 l1_3 a1_4)) else (turntableref05_SameFunc.j0 k true a0_0 l0_1 a0_2 l0_3 a0_4 a1_0 l1_1 a1_2 l1_3 a1_4)) = some r := h
 clear h
 have HC3 := Aside0.mk H
 clear H
 go_enter Try.func64, Try.ntmps64
 go_upto_region 1 with (first | ((with_reducible refine gate_dst (N := 2) rfl ?_); (try (refine gate_guard (by rfl) ?_; dsimp only)); refine box_event ?hg (N := 2) ?hd (cs := #[.string a0_0, .slice A0_1 l0_1.length c0_1, .int .i64 a0_2, .slice A0_3 l0_3.length c0_3, .int .i64 a0_4]) (t := 34) ?hr ?_; (case hd => rfl); (case hg => rfl); (case hr => first | (go_simp; done) | (go_simp; rfl)); intro gb452 hg w4 hbox hb; have n0_ := Aside0.mk (below_step (zB HB.out) hb); have n1_ := Aside0.mk (hbox); have n2_ := Aside0.mk ((by rw [hg]; exact (below_size (zB HB.out)) : w.heap.size ≤ gb452)); have n3_ := Aside0.mk ((by rw [hg]; exact (below_size (zB HB.out)) : w.heap.size ≤ gb452)); clear HB; have HB := n0_; have BK452 := n1_; have GW452 := n2_; have GE452 := n3_; clear n0_ n1_ n2_ n3_; clear hb hbox hg) | ((with_reducible refine gate_dst (N := 3) rfl ?_); (try (refine gate_guard (by rfl) ?_; dsimp only)); refine box_event ?hg (N := 3) ?hd (cs := #[.string a1_0, .slice A1_1 l1_1.length c1_1, .int .i64 a1_2, .slice A1_3 l1_3.length c1_3, .int .i64 a1_4]) (t := 34) ?hr ?_; (case hd => rfl); (case hg => rfl); (case hr => first | (go_simp; done) | (go_simp; rfl)); intro gb453 hg w5 hbox hb; have n0_ := Aside0.mk (blk_below (g := gb452) (o := .cells #[.string a0_0, .slice A0_1 l0_1.length c0_1, .int .i64 a0_2, .slice A0_3 l0_3.length c0_3, .int .i64 a0_4] 34 (0, 0)) (zK BK452.out) hb); have n1_ := Aside0.mk (below_step (zC HB.out GE452.out) hb); have n2_ := Aside0.mk (hbox); have n3_ := Aside0.mk ((by rw [hg]; exact (below_size (zC HB.out GE452.out)) : w.heap.size ≤ gb453)); have n4_ := Aside0.mk ((by rw [hg]; exact (below_size (zC HB.out GE452.out)) : w.heap.size ≤ gb453)); have n5_ := Aside0.mk ((by rw [hg]; exact Nat.ne_of_lt (blk_lt (g := gb452) (o := .cells #[.string a0_0, .slice A0_1 l0_1.length c0_1, .int .i64 a0_2, .slice A0_3 l0_3.length c0_3, .int .i64 a0_4] 34 (0, 0)) (zK BK452.out)) : gb452 ≠ gb453)); have n6_ := Aside0.mk ((by rw [hg]; exact Nat.ne_of_gt (blk_lt (g := gb452) (o := .cells #[.string a0_0, .slice A0_1 l0_1.length c0_1, .int .i64 a0_2, .slice A0_3 l0_3.length c0_3, .int .i64 a0_4] 34 (0, 0)) (zK BK452.out)) : gb453 ≠ gb452)); clear BK452; clear HB; have BK452 := n0_; have HB := n1_; have BK453 := n2_; have GW453 := n3_; have GE453 := n4_; have NB452_453 := n5_; have NB453_452 := n6_; clear n0_ n1_ n2_ n3_ n4_ n5_ n6_; clear hb hbox hg))
 (try simp only [Act.put, List.setIfInBounds_toArray, List.set_cons_zero, List.set_cons_succ])
 go_cut [35] (fun v35 wc => ∃ (kq : Nat) (x35_2 : Bool), v35 = .bool x35_2 ∧ Aside0 (turntableref05_SameFunc.j0 kq x35_2 a0_0 l0_1 a0_2 l0_3 a0_4 a1_0 l1_1 a1_2 l1_3 a1_4 = some r) ∧ Aside0 (kq ≤ k) ∧ Aside0 (wc.heap[gb452]? = some (.cells #[.string a0_0, (.slice A0_1 l0_1.length c0_1), .int .i64 a0_2, (.slice A0_3 l0_3.length c0_3), .int .i64 a0_4] 34 (0, 0))) ∧ Aside0 (wc.heap[gb453]? = some (.cells #[.string a1_0, (.slice A1_1 l1_1.length c1_1), .int .i64 a1_2, (.slice A1_3 l1_3.length c1_3), .int .i64 a1_4] 34 (0, 0))) ∧ Aside0 (Below w.heap.size w wc))
 case first =>
  have H := HC3.out
  clear HC3
  by_cases c6 : a0_0.toList = a1_0.toList
  ·rw [if_pos c6] at H
   have c6b0 : (a0_0.toList == a1_0.toList) = true := beq_iff_eq.mpr c6
   have c6b1 : (a0_0.toList != a1_0.toList) = false := bne_eq_false_iff_eq.mpr c6
   clear c6
   (first | rw [c6b0] | (simp only [i64_w, i32_w]; rw [c6b0]) | skip)
   by_cases c7 : a0_2 = a1_2
   ·rw [if_pos c7] at H
    have c7b0 : (a0_2 == a1_2) = true := beq_iff_eq.mpr c7
    have c7b1 : (a0_2 != a1_2) = false := bne_eq_false_iff_eq.mpr c7
    clear c7
    replace H := Option.bind_eq_some_iff.mp H
    obtain ⟨t454, A80, H⟩ := H
    replace H : (if t454 = true then (turntableref05_SameFunc.j0 k ((l0_3.length : Int) != (l1_3.length : Int)) a0_0 l0_1 a0_2 l0_3 a0_4 a1_0 l1_1 a1_2 l1_3 a1_4) else (turntableref05_SameFunc.j0 k true a0_0 l0_1 a0_2 l0_3 a0_4 a1_0 l1_1 a1_2 l1_3 a1_4)) = some r := H
    have A8 := Aside0.mk A80
    clear A80
    by_cases c9 : t454 = true
    ·subst c9
     have H1 : (turntableref05_SameFunc.j0 k ((l0_3.length : Int) != (l1_3.length : Int)) a0_0 l0_1 a0_2 l0_3 a0_4 a1_0 l1_1 a1_2 l1_3 a1_4) = some r := by rw [if_pos rfl] at H; exact H
     clear H
     have H := H1
     clear H1
     have H' := Aside0.mk H
     clear H
     have hnb10 := NB452_453.out
     have hnc10 := NB453_452.out
     have hcz11_0 : w5.cell? ⟨gb452, 0, none⟩ = some (.string a0_0) := (blk_cell BK452.out 0).trans rfl
     have hcz11_1 : w5.cell? ⟨gb452, 1, none⟩ = some (.slice A0_1 l0_1.length c0_1) := (blk_cell BK452.out 1).trans rfl
     have hcz11_2 : w5.cell? ⟨gb452, 2, none⟩ = some (.int .i64 a0_2) := (blk_cell BK452.out 2).trans rfl
     have hcz11_3 : w5.cell? ⟨gb452, 3, none⟩ = some (.slice A0_3 l0_3.length c0_3) := (blk_cell BK452.out 3).trans rfl
     have hcz11_4 : w5.cell? ⟨gb452, 4, none⟩ = some (.int .i64 a0_4) := (blk_cell BK452.out 4).trans rfl
     have hfz11_0 := blk_frozen BK452.out 0
     have hfz11_1 := blk_frozen BK452.out 1
     have hfz11_2 := blk_frozen BK452.out 2
     have hfz11_3 := blk_frozen BK452.out 3
     have hfz11_4 := blk_frozen BK452.out 4
     have hcz12_0 : w5.cell? ⟨gb453, 0, none⟩ = some (.string a1_0) := (blk_cell BK453.out 0).trans rfl
     have hcz12_1 : w5.cell? ⟨gb453, 1, none⟩ = some (.slice A1_1 l1_1.length c1_1) := (blk_cell BK453.out 1).trans rfl
     have hcz12_2 : w5.cell? ⟨gb453, 2, none⟩ = some (.int .i64 a1_2) := (blk_cell BK453.out 2).trans rfl
     have hcz12_3 : w5.cell? ⟨gb453, 3, none⟩ = some (.slice A1_3 l1_3.length c1_3) := (blk_cell BK453.out 3).trans rfl
     have hcz12_4 : w5.cell? ⟨gb453, 4, none⟩ = some (.int .i64 a1_4) := (blk_cell BK453.out 4).trans rfl
     have hfz12_0 := blk_frozen BK453.out 0
     have hfz12_1 := blk_frozen BK453.out 1
     have hfz12_2 := blk_frozen BK453.out 2
     have hfz12_3 := blk_frozen BK453.out 3
     have hfz12_4 := blk_frozen BK453.out 4
     go_wp2_with (first | (go_at_call 89; (with_reducible refine (turntableref05_Ints.calls k _ _ l0_1 _ _ l1_1 true _ ?side1 ?side2 ?side3 ?side4 A8.out).mono ?_); (case side1 => repeat (first | exact (Kd.C_below HR0_1.out HB.out) | (with_reducible refine Kd.C_alloc ?_ _) | (with_reducible refine Kd.C_drewN ?_ _) | (with_reducible refine Kd.C_drew ?_))); (case side2 => exact HC0_1.out); (case side3 => repeat (first | exact (Kd.C_below HR1_1.out HB.out) | (with_reducible refine Kd.C_alloc ?_ _) | (with_reducible refine Kd.C_drewN ?_ _) | (with_reducible refine Kd.C_drew ?_))); (case side4 => exact HC1_1.out); rintro e w' ⟨rfl, ⟨nd, rfl⟩⟩))
     go_meet
     case rel => exact ⟨_, (((l0_3.length : Int) != (l1_3.length : Int))), (by first | rfl | (simp; done) | (simp [*]; done)), H', ⟨by first | omega | exact Nat.le_refl _⟩, ⟨zK BK452.out⟩, ⟨zK BK453.out⟩, ⟨zD HB.out GE452.out GE453.out⟩⟩
    ·replace c9 := Bool.eq_false_iff.mpr c9
     subst c9
     have H1 : (turntableref05_SameFunc.j0 k true a0_0 l0_1 a0_2 l0_3 a0_4 a1_0 l1_1 a1_2 l1_3 a1_4) = some r := by rw [if_neg (show ¬ (false = true) by decide)] at H; exact H
     clear H
     have H := H1
     clear H1
     have H' := Aside0.mk H
     clear H
     have hnb13 := NB452_453.out
     have hnc13 := NB453_452.out
     have hcz14_0 : w5.cell? ⟨gb452, 0, none⟩ = some (.string a0_0) := (blk_cell BK452.out 0).trans rfl
     have hcz14_1 : w5.cell? ⟨gb452, 1, none⟩ = some (.slice A0_1 l0_1.length c0_1) := (blk_cell BK452.out 1).trans rfl
     have hcz14_2 : w5.cell? ⟨gb452, 2, none⟩ = some (.int .i64 a0_2) := (blk_cell BK452.out 2).trans rfl
     have hcz14_3 : w5.cell? ⟨gb452, 3, none⟩ = some (.slice A0_3 l0_3.length c0_3) := (blk_cell BK452.out 3).trans rfl
     have hcz14_4 : w5.cell? ⟨gb452, 4, none⟩ = some (.int .i64 a0_4) := (blk_cell BK452.out 4).trans rfl
     have hfz14_0 := blk_frozen BK452.out 0
     have hfz14_1 := blk_frozen BK452.out 1
     have hfz14_2 := blk_frozen BK452.out 2
     have hfz14_3 := blk_frozen BK452.out 3
     have hfz14_4 := blk_frozen BK452.out 4
     have hcz15_0 : w5.cell? ⟨gb453, 0, none⟩ = some (.string a1_0) := (blk_cell BK453.out 0).trans rfl
     have hcz15_1 : w5.cell? ⟨gb453, 1, none⟩ = some (.slice A1_1 l1_1.length c1_1) := (blk_cell BK453.out 1).trans rfl
     have hcz15_2 : w5.cell? ⟨gb453, 2, none⟩ = some (.int .i64 a1_2) := (blk_cell BK453.out 2).trans rfl
     have hcz15_3 : w5.cell? ⟨gb453, 3, none⟩ = some (.slice A1_3 l1_3.length c1_3) := (blk_cell BK453.out 3).trans rfl
     have hcz15_4 : w5.cell? ⟨gb453, 4, none⟩ = some (.int .i64 a1_4) := (blk_cell BK453.out 4).trans rfl
     have hfz15_0 := blk_frozen BK453.out 0
     have hfz15_1 := blk_frozen BK453.out 1
     have hfz15_2 := blk_frozen BK453.out 2
     have hfz15_3 := blk_frozen BK453.out 3
     have hfz15_4 := blk_frozen BK453.out 4
     go_wp2_with (first | (go_at_call 89; (with_reducible refine (turntableref05_Ints.calls k _ _ l0_1 _ _ l1_1 false _ ?side1 ?side2 ?side3 ?side4 A8.out).mono ?_); (case side1 => repeat (first | exact (Kd.C_below HR0_1.out HB.out) | (with_reducible refine Kd.C_alloc ?_ _) | (with_reducible refine Kd.C_drewN ?_ _) | (with_reducible refine Kd.C_drew ?_))); (case side2 => exact HC0_1.out); (case side3 => repeat (first | exact (Kd.C_below HR1_1.out HB.out) | (with_reducible refine Kd.C_alloc ?_ _) | (with_reducible refine Kd.C_drewN ?_ _) | (with_reducible refine Kd.C_drew ?_))); (case side4 => exact HC1_1.out); rintro e w' ⟨rfl, ⟨nd, rfl⟩⟩))
     go_meet
     case rel => exact ⟨_, (true), (by first | rfl | (simp; done) | (simp [*]; done)), H', ⟨by first | omega | exact Nat.le_refl _⟩, ⟨zK BK452.out⟩, ⟨zK BK453.out⟩, ⟨zD HB.out GE452.out GE453.out⟩⟩
   ·rw [if_neg c7] at H
    have c7b0 : (a0_2 == a1_2) = false := beq_eq_false_iff_ne.mpr c7
    have c7b1 : (a0_2 != a1_2) = true := bne_iff_ne.mpr c7
    have H' := Aside0.mk H
    clear H
    have hnb16 := NB452_453.out
    have hnc16 := NB453_452.out
    have hcz17_0 : w5.cell? ⟨gb452, 0, none⟩ = some (.string a0_0) := (blk_cell BK452.out 0).trans rfl
    have hcz17_1 : w5.cell? ⟨gb452, 1, none⟩ = some (.slice A0_1 l0_1.length c0_1) := (blk_cell BK452.out 1).trans rfl
    have hcz17_2 : w5.cell? ⟨gb452, 2, none⟩ = some (.int .i64 a0_2) := (blk_cell BK452.out 2).trans rfl
    have hcz17_3 : w5.cell? ⟨gb452, 3, none⟩ = some (.slice A0_3 l0_3.length c0_3) := (blk_cell BK452.out 3).trans rfl
    have hcz17_4 : w5.cell? ⟨gb452, 4, none⟩ = some (.int .i64 a0_4) := (blk_cell BK452.out 4).trans rfl
    have hfz17_0 := blk_frozen BK452.out 0
    have hfz17_1 := blk_frozen BK452.out 1
    have hfz17_2 := blk_frozen BK452.out 2
    have hfz17_3 := blk_frozen BK452.out 3
    have hfz17_4 := blk_frozen BK452.out 4
    have hcz18_0 : w5.cell? ⟨gb453, 0, none⟩ = some (.string a1_0) := (blk_cell BK453.out 0).trans rfl
    have hcz18_1 : w5.cell? ⟨gb453, 1, none⟩ = some (.slice A1_1 l1_1.length c1_1) := (blk_cell BK453.out 1).trans rfl
    have hcz18_2 : w5.cell? ⟨gb453, 2, none⟩ = some (.int .i64 a1_2) := (blk_cell BK453.out 2).trans rfl
    have hcz18_3 : w5.cell? ⟨gb453, 3, none⟩ = some (.slice A1_3 l1_3.length c1_3) := (blk_cell BK453.out 3).trans rfl
    have hcz18_4 : w5.cell? ⟨gb453, 4, none⟩ = some (.int .i64 a1_4) := (blk_cell BK453.out 4).trans rfl
    have hfz18_0 := blk_frozen BK453.out 0
    have hfz18_1 := blk_frozen BK453.out 1
    have hfz18_2 := blk_frozen BK453.out 2
    have hfz18_3 := blk_frozen BK453.out 3
    have hfz18_4 := blk_frozen BK453.out 4
    go_wp2
    go_meet
    case rel => exact ⟨_, (true), (by first | rfl | (simp; done) | (simp [*]; done)), H', ⟨by first | omega | exact Nat.le_refl _⟩, ⟨zK BK452.out⟩, ⟨zK BK453.out⟩, ⟨zD HB.out GE452.out GE453.out⟩⟩
  ·rw [if_neg c6] at H
   have c6b0 : (a0_0.toList == a1_0.toList) = false := beq_eq_false_iff_ne.mpr c6
   have c6b1 : (a0_0.toList != a1_0.toList) = true := bne_iff_ne.mpr c6
   (first | rw [c6b0] | (simp only [i64_w, i32_w]; rw [c6b0]) | skip)
   have H' := Aside0.mk H
   clear H
   have hnb19 := NB452_453.out
   have hnc19 := NB453_452.out
   have hcz20_0 : w5.cell? ⟨gb452, 0, none⟩ = some (.string a0_0) := (blk_cell BK452.out 0).trans rfl
   have hcz20_1 : w5.cell? ⟨gb452, 1, none⟩ = some (.slice A0_1 l0_1.length c0_1) := (blk_cell BK452.out 1).trans rfl
   have hcz20_2 : w5.cell? ⟨gb452, 2, none⟩ = some (.int .i64 a0_2) := (blk_cell BK452.out 2).trans rfl
   have hcz20_3 : w5.cell? ⟨gb452, 3, none⟩ = some (.slice A0_3 l0_3.length c0_3) := (blk_cell BK452.out 3).trans rfl
   have hcz20_4 : w5.cell? ⟨gb452, 4, none⟩ = some (.int .i64 a0_4) := (blk_cell BK452.out 4).trans rfl
   have hfz20_0 := blk_frozen BK452.out 0
   have hfz20_1 := blk_frozen BK452.out 1
   have hfz20_2 := blk_frozen BK452.out 2
   have hfz20_3 := blk_frozen BK452.out 3
   have hfz20_4 := blk_frozen BK452.out 4
   have hcz21_0 : w5.cell? ⟨gb453, 0, none⟩ = some (.string a1_0) := (blk_cell BK453.out 0).trans rfl
   have hcz21_1 : w5.cell? ⟨gb453, 1, none⟩ = some (.slice A1_1 l1_1.length c1_1) := (blk_cell BK453.out 1).trans rfl
   have hcz21_2 : w5.cell? ⟨gb453, 2, none⟩ = some (.int .i64 a1_2) := (blk_cell BK453.out 2).trans rfl
   have hcz21_3 : w5.cell? ⟨gb453, 3, none⟩ = some (.slice A1_3 l1_3.length c1_3) := (blk_cell BK453.out 3).trans rfl
   have hcz21_4 : w5.cell? ⟨gb453, 4, none⟩ = some (.int .i64 a1_4) := (blk_cell BK453.out 4).trans rfl
   have hfz21_0 := blk_frozen BK453.out 0
   have hfz21_1 := blk_frozen BK453.out 1
   have hfz21_2 := blk_frozen BK453.out 2
   have hfz21_3 := blk_frozen BK453.out 3
   have hfz21_4 := blk_frozen BK453.out 4
   go_wp2
   go_meet
   case rel => exact ⟨_, (true), (by first | rfl | (simp; done) | (simp [*]; done)), H', ⟨by first | omega | exact Nat.le_refl _⟩, ⟨zK BK452.out⟩, ⟨zK BK453.out⟩, ⟨zD HB.out GE452.out GE453.out⟩⟩
 case rest =>
  clear HC3
  try clear c1
  try clear p2
  try clear c6
  try clear c6b0
  try clear c6b1
  try clear c7
  try clear c7b0
  try clear c7b1
  try clear c9
  try clear c10
  try clear c13
  try clear c16
  try clear c19
  try clear hcz11_0
  try clear hcz11_1
  try clear hcz11_2
  try clear hcz11_3
  try clear hcz11_4
  try clear hcz12_0
  try clear hcz12_1
  try clear hcz12_2
  try clear hcz12_3
  try clear hcz12_4
  try clear hcz14_0
  try clear hcz14_1
  try clear hcz14_2
  try clear hcz14_3
  try clear hcz14_4
  try clear hcz15_0
  try clear hcz15_1
  try clear hcz15_2
  try clear hcz15_3
  try clear hcz15_4
  try clear hcz17_0
  try clear hcz17_1
  try clear hcz17_2
  try clear hcz17_3
  try clear hcz17_4
  try clear hcz18_0
  try clear hcz18_1
  try clear hcz18_2
  try clear hcz18_3
  try clear hcz18_4
  try clear hcz20_0
  try clear hcz20_1
  try clear hcz20_2
  try clear hcz20_3
  try clear hcz20_4
  try clear hcz21_0
  try clear hcz21_1
  try clear hcz21_2
  try clear hcz21_3
  try clear hcz21_4
  try clear hfz11_0
  try clear hfz11_1
  try clear hfz11_2
  try clear hfz11_3
  try clear hfz11_4
  try clear hfz12_0
  try clear hfz12_1
  try clear hfz12_2
  try clear hfz12_3
  try clear hfz12_4
  try clear hfz14_0
  try clear hfz14_1
  try clear hfz14_2
  try clear hfz14_3
  try clear hfz14_4
  try clear hfz15_0
  try clear hfz15_1
  try clear hfz15_2
  try clear hfz15_3
  try clear hfz15_4
  try clear hfz17_0
  try clear hfz17_1
  try clear hfz17_2
  try clear hfz17_3
  try clear hfz17_4
  try clear hfz18_0
  try clear hfz18_1
  try clear hfz18_2
  try clear hfz18_3
  try clear hfz18_4
  try clear hfz20_0
  try clear hfz20_1
  try clear hfz20_2
  try clear hfz20_3
  try clear hfz20_4
  try clear hfz21_0
  try clear hfz21_1
  try clear hfz21_2
  try clear hfz21_3
  try clear hfz21_4
  obtain ⟨kq, x35_2, rfl, HA, HJ2, BK452, BK453, HB⟩ := hcut
  cases kq with
  | zero => exact absurd HA.out (by simp [turntableref05_SameFunc.j0])
  | succ kj2 =>
   have H := HA.out
   clear HA
   simp only [turntableref05_SameFunc.j0] at H
   by_cases c22 : x35_2 = true
   ·subst c22
    have H1 : (some false) = some r := by rw [if_pos rfl] at H; exact H
    clear H
    have H := H1
    clear H1
    obtain rfl := Option.some.inj H
    go_wp2
    go_ret
    exact ⟨zF, zD HB.out GE452.out GE453.out⟩
   ·replace c22 := Bool.eq_false_iff.mpr c22
    subst c22
    have H1 : (turntableref05_SameFunc.l0 kj2 0 a0_0 l0_1 a0_2 l0_3 a0_4 a1_0 l1_1 a1_2 l1_3 a1_4) = some r := by rw [if_neg (show ¬ (false = true) by decide)] at H; exact H
    clear H
    have H := H1
    clear H1
    have H' := Aside0.mk H
    clear H
    go_wp2
    go_loopg [5] kj2 (fun kq v5 w' => ∃ (x5_2 : Int), v5 = .int .i64 x5_2 ∧ Aside0 (turntableref05_SameFunc.l0 kq x5_2 a0_0 l0_1 a0_2 l0_3 a0_4 a1_0 l1_1 a1_2 l1_3 a1_4 = some r) ∧ Aside0 (kq ≤ kj2) ∧ Aside0 (w'.heap[gb452]? = some (.cells #[.string a0_0, (.slice A0_1 l0_1.length c0_1), .int .i64 a0_2, (.slice A0_3 l0_3.length c0_3), .int .i64 a0_4] 34 (0, 0))) ∧ Aside0 (w'.heap[gb453]? = some (.cells #[.string a1_0, (.slice A1_1 l1_1.length c1_1), .int .i64 a1_2, (.slice A1_3 l1_3.length c1_3), .int .i64 a1_4] 34 (0, 0))) ∧ Aside0 (Below w.heap.size w w'))
    case atStart => exact ⟨(0), (by first | rfl | (simp; done) | (simp [*]; done)), H', ⟨Nat.le_refl _⟩, ⟨zK BK452.out⟩, ⟨zK BK453.out⟩, ⟨zD HB.out GE452.out GE453.out⟩⟩
    case round =>
     clear H'
     try clear c1
     try clear c2
     try clear p2
     try clear c6
     try clear c6b0
     try clear c6b1
     try clear c7
     try clear c7b0
     try clear c7b1
     try clear c9
     try clear c10
     try clear c13
     try clear c16
     try clear c19
     try clear c22
     try clear hcz11_0
     try clear hcz11_1
     try clear hcz11_2
     try clear hcz11_3
     try clear hcz11_4
     try clear hcz12_0
     try clear hcz12_1
     try clear hcz12_2
     try clear hcz12_3
     try clear hcz12_4
     try clear hcz14_0
     try clear hcz14_1
     try clear hcz14_2
     try clear hcz14_3
     try clear hcz14_4
     try clear hcz15_0
     try clear hcz15_1
     try clear hcz15_2
     try clear hcz15_3
     try clear hcz15_4
     try clear hcz17_0
     try clear hcz17_1
     try clear hcz17_2
     try clear hcz17_3
     try clear hcz17_4
     try clear hcz18_0
     try clear hcz18_1
     try clear hcz18_2
     try clear hcz18_3
     try clear hcz18_4
     try clear hcz20_0
     try clear hcz20_1
     try clear hcz20_2
     try clear hcz20_3
     try clear hcz20_4
     try clear hcz21_0
     try clear hcz21_1
     try clear hcz21_2
     try clear hcz21_3
     try clear hcz21_4
     try clear hfz11_0
     try clear hfz11_1
     try clear hfz11_2
     try clear hfz11_3
     try clear hfz11_4
     try clear hfz12_0
     try clear hfz12_1
     try clear hfz12_2
     try clear hfz12_3
     try clear hfz12_4
     try clear hfz14_0
     try clear hfz14_1
     try clear hfz14_2
     try clear hfz14_3
     try clear hfz14_4
     try clear hfz15_0
     try clear hfz15_1
     try clear hfz15_2
     try clear hfz15_3
     try clear hfz15_4
     try clear hfz17_0
     try clear hfz17_1
     try clear hfz17_2
     try clear hfz17_3
     try clear hfz17_4
     try clear hfz18_0
     try clear hfz18_1
     try clear hfz18_2
     try clear hfz18_3
     try clear hfz18_4
     try clear hfz20_0
     try clear hfz20_1
     try clear hfz20_2
     try clear hfz20_3
     try clear hfz20_4
     try clear hfz21_0
     try clear hfz21_1
     try clear hfz21_2
     try clear hfz21_3
     try clear hfz21_4
     try clear p2
     obtain ⟨x5_2, rfl, HA, HK2, BK452, BK453, HB⟩ := hrel
     cases gk with
     | zero => exact absurd HA.out (by simp [turntableref05_SameFunc.l0])
     | succ k2 =>
      have H := HA.out
      clear HA
      simp only [turntableref05_SameFunc.l0] at H
      by_cases c23 : x5_2 < (l0_3.length : Int)
      ·rw [if_pos c23] at H
       have c23b0 : decide (x5_2 < (l0_3.length : Int)) = true := decide_eq_true c23
       clear c23
       by_cases c24 : 0 ≤ x5_2
       ·rw [if_pos c24] at H
        have c24b0 : decide (0 ≤ x5_2) = true := decide_eq_true c24
        clear c24
        by_cases c25 : x5_2 < (l1_3.length : Int)
        ·rw [if_pos c25] at H
         have c25b0 : decide (x5_2 < (l1_3.length : Int)) = true := decide_eq_true c25
         clear c25
         by_cases c26 : ((rd_L4 l0_3 x5_2).length : Int) = ((rd_L4 l1_3 x5_2).length : Int)
         ·rw [if_pos c26] at H
          have c26b0 : (((rd_L4 l0_3 x5_2).length : Int) == ((rd_L4 l1_3 x5_2).length : Int)) = true := beq_iff_eq.mpr c26
          have c26b1 : (((rd_L4 l0_3 x5_2).length : Int) != ((rd_L4 l1_3 x5_2).length : Int)) = false := bne_eq_false_iff_eq.mpr c26
          have c26b2 : ((rd_L4 l0_3 x5_2).length == (rd_L4 l1_3 x5_2).length) = true := by first | simpa using c26 | (simp at c26 ⊢; omega)
          clear c26
          have H' := Aside0.mk H
          clear H
          have hnb27 := NB452_453.out
          have hnc27 := NB453_452.out
          have hcz28_0 : wr.cell? ⟨gb452, 0, none⟩ = some (.string a0_0) := (blk_cell BK452.out 0).trans rfl
          have hcz28_1 : wr.cell? ⟨gb452, 1, none⟩ = some (.slice A0_1 l0_1.length c0_1) := (blk_cell BK452.out 1).trans rfl
          have hcz28_2 : wr.cell? ⟨gb452, 2, none⟩ = some (.int .i64 a0_2) := (blk_cell BK452.out 2).trans rfl
          have hcz28_3 : wr.cell? ⟨gb452, 3, none⟩ = some (.slice A0_3 l0_3.length c0_3) := (blk_cell BK452.out 3).trans rfl
          have hcz28_4 : wr.cell? ⟨gb452, 4, none⟩ = some (.int .i64 a0_4) := (blk_cell BK452.out 4).trans rfl
          have hfz28_0 := blk_frozen BK452.out 0
          have hfz28_1 := blk_frozen BK452.out 1
          have hfz28_2 := blk_frozen BK452.out 2
          have hfz28_3 := blk_frozen BK452.out 3
          have hfz28_4 := blk_frozen BK452.out 4
          try go_wp2
          have n0_ := Aside0.mk (blk_drew BK452.out)
          have n1_ := Aside0.mk (blk_drew BK453.out)
          have n2_ := Aside0.mk (below_drew1 HB.out)
          clear BK452
          clear BK453
          clear HB
          have BK452 := n0_
          have BK453 := n1_
          have HB := n2_
          clear n0_ n1_ n2_
          have p455 : 0 ≤ (x5_2 : Int) := of_decide_eq_true zS
          have q455 : x5_2 < (l0_3.length : Int) := of_decide_eq_true zS
          obtain ⟨ad455, A455_0, c455_0, e455, hx455_0, hl455_0, hi455_0⟩ := at_L4 HR0_3.out x5_2 p455 q455
          have hw455_0 := hx455_0
          cases e455
          replace hx455_0 := (HB.out.cell (World.block_lt_of_cell? w _ hx455_0)).trans hx455_0
          have HR455_0 := Aside0.mk hi455_0
          have HC455_0 := Aside0.mk hl455_0
          clear hi455_0 hl455_0
          replace p455 := eq_true p455
          replace q455 := eq_true q455
          have p456 : 0 ≤ (x5_2 : Int) := of_decide_eq_true zS
          have q456 : x5_2 < (l1_3.length : Int) := of_decide_eq_true zS
          obtain ⟨ad456, A456_0, c456_0, e456, hx456_0, hl456_0, hi456_0⟩ := at_L4 HR1_3.out x5_2 p456 q456
          have hw456_0 := hx456_0
          cases e456
          replace hx456_0 := (HB.out.cell (World.block_lt_of_cell? w _ hx456_0)).trans hx456_0
          have HR456_0 := Aside0.mk hi456_0
          have HC456_0 := Aside0.mk hl456_0
          clear hi456_0 hl456_0
          replace p456 := eq_true p456
          replace q456 := eq_true q456
          refine start_ (n := 13) (S := fun w' => w'.cell? ⟨gb452, 0, none⟩ = some (.string a0_0) ∧ w'.cell? ⟨gb452, 1, none⟩ = some (.slice A0_1 l0_1.length c0_1) ∧ w'.cell? ⟨gb452, 2, none⟩ = some (.int .i64 a0_2) ∧ w'.cell? ⟨gb452, 3, none⟩ = some (.slice (some ad455) l0_3.length c0_3) ∧ w'.cell? ⟨gb452, 4, none⟩ = some (.int .i64 a0_4) ∧ w'.cell? ⟨gb453, 0, none⟩ = some (.string a1_0) ∧ w'.cell? ⟨gb453, 1, none⟩ = some (.slice A1_1 l1_1.length c1_1) ∧ w'.cell? ⟨gb453, 2, none⟩ = some (.int .i64 a1_2) ∧ w'.cell? ⟨gb453, 3, none⟩ = some (.slice (some ad456) l1_3.length c1_3) ∧ w'.cell? ⟨gb453, 4, none⟩ = some (.int .i64 a1_4) ∧ w'.cell? (ad455.add (x5_2).toNat) = some (.slice A455_0 (rd_L4 l0_3 x5_2).length c455_0) ∧ w'.cell? (ad456.add (x5_2).toNat) = some (.slice A456_0 (rd_L4 l1_3 x5_2).length c456_0)) (ds := []) #[false, false, false, false, false, false, false, false, false, false, false, false, false] (by kernel_rfl) rfl rfl ⟨(blk_cell BK452.out 0).trans rfl, (blk_cell BK452.out 1).trans rfl, (blk_cell BK452.out 2).trans rfl, (blk_cell BK452.out 3).trans rfl, (blk_cell BK452.out 4).trans rfl, (blk_cell BK453.out 0).trans rfl, (blk_cell BK453.out 1).trans rfl, (blk_cell BK453.out 2).trans rfl, (blk_cell BK453.out 3).trans rfl, (blk_cell BK453.out 4).trans rfl, ((HB.out.cell (World.block_lt_of_cell? w _ hw455_0)).trans hw455_0), ((HB.out.cell (World.block_lt_of_cell? w _ hw456_0)).trans hw456_0)⟩ (fun hHeld => ?_); refine with_tabW turntableref05_SameFunc.tab6 turntableref05_SameFunc.bits6 (fun HT_ HW_ => ?_)
          generalize wr.drew = w29 at BK452 BK453 HB HR455_0 HR456_0 hx455_0 hx456_0 hHeld ⊢
          refine pure_ (i := 0) (N := some 43) (v := ?_) (a' := ?_) #[true, false, false, false, false, false, false, false, false, false, false, false, false] rfl rfl (any_of HT_.out (by kernel_rfl)) (fun _ _ _ h => h) (Or.inl ⟨by rfl, ?_⟩) ?_ ?_
          rotate_left
          ·intro w'
           go_simp
           with_reducible rfl
          rotate_left
          ·simp only [Act.put, List.setIfInBounds_toArray, List.set_cons_zero, List.set_cons_succ, i64_w, i32_w]
           rfl
          refine pure_ (i := 2) (N := some 45) (v := ?_) (a' := ?_) #[true, false, true, false, false, false, false, false, false, false, false, false, false] rfl rfl (any_of HT_.out (by kernel_rfl)) (fun _ _ _ h => h) (Or.inl ⟨by rfl, ?_⟩) ?_ ?_
          rotate_left
          ·intro w'
           go_simp
           with_reducible rfl
          rotate_left
          ·simp only [Act.put, List.setIfInBounds_toArray, List.set_cons_zero, List.set_cons_succ, i64_w, i32_w]
           rfl
          refine pure_ (i := 6) (N := some 49) (v := ?_) (a' := ?_) #[true, false, true, false, false, false, true, false, false, false, false, false, false] rfl rfl (any_of HT_.out (by kernel_rfl)) (fun _ _ _ h => h) (Or.inl ⟨by rfl, ?_⟩) ?_ ?_
          rotate_left
          ·intro w'
           go_simp
           with_reducible rfl
          rotate_left
          ·simp only [Act.put, List.setIfInBounds_toArray, List.set_cons_zero, List.set_cons_succ, i64_w, i32_w]
           rfl
          refine pure_ (i := 8) (N := some 51) (v := ?_) (a' := ?_) #[true, false, true, false, false, false, true, false, true, false, false, false, false] rfl rfl (any_of HT_.out (by kernel_rfl)) (fun _ _ _ h => h) (Or.inl ⟨by rfl, ?_⟩) ?_ ?_
          rotate_left
          ·intro w'
           go_simp
           with_reducible rfl
          rotate_left
          ·simp only [Act.put, List.setIfInBounds_toArray, List.set_cons_zero, List.set_cons_succ, i64_w, i32_w]
           rfl
          refine take_ (i := 1) (N := some 44) (v := ?_) (a' := ?_) #[true, true, true, false, false, false, true, false, true, false, false, false, false] rfl rfl (take_ofW HT_.out HW_.out (by kernel_rfl)) (fun _ _ _ h => h) (Or.inl ⟨by rfl, ?_⟩) hHeld ?_ ?_
          rotate_left
          ·rintro w' ⟨s0, s1, s2, s3, s4, s5, s6, s7, s8, s9, s10, s11⟩
           go_simp
           with_reducible rfl
          rotate_left
          ·simp only [Act.put, List.setIfInBounds_toArray, List.set_cons_zero, List.set_cons_succ, i64_w, i32_w]
           rfl
          refine pure_ (i := 3) (N := some 46) (v := ?_) (a' := ?_) #[true, true, true, true, false, false, true, false, true, false, false, false, false] rfl rfl (any_of HT_.out (by kernel_rfl)) (fun _ _ _ h => h) (Or.inl ⟨by rfl, ?_⟩) ?_ ?_
          rotate_left
          ·intro w'
           go_simp
           with_reducible rfl
          rotate_left
          ·simp only [Act.put, List.setIfInBounds_toArray, List.set_cons_zero, List.set_cons_succ, i64_w, i32_w]
           rfl
          refine take_ (i := 4) (N := some 47) (v := ?_) (a' := ?_) #[true, true, true, true, true, false, true, false, true, false, false, false, false] rfl rfl (take_ofW HT_.out HW_.out (by kernel_rfl)) (fun _ _ _ h => h) (Or.inl ⟨by rfl, ?_⟩) hHeld ?_ ?_
          rotate_left
          ·rintro w' ⟨s0, s1, s2, s3, s4, s5, s6, s7, s8, s9, s10, s11⟩
           go_simp
           with_reducible rfl
          rotate_left
          ·simp only [Act.put, List.setIfInBounds_toArray, List.set_cons_zero, List.set_cons_succ, i64_w, i32_w]
           rfl
          refine pure_ (i := 5) (N := some 48) (v := ?_) (a' := ?_) #[true, true, true, true, true, true, true, false, true, false, false, false, false] rfl rfl (any_of HT_.out (by kernel_rfl)) (fun _ _ _ h => h) (Or.inl ⟨by rfl, ?_⟩) ?_ ?_
          rotate_left
          ·intro w'
           go_simp
           with_reducible rfl
          rotate_left
          ·simp only [Act.put, List.setIfInBounds_toArray, List.set_cons_zero, List.set_cons_succ, i64_w, i32_w]
           rfl
          refine take_ (i := 7) (N := some 50) (v := ?_) (a' := ?_) #[true, true, true, true, true, true, true, true, true, false, false, false, false] rfl rfl (take_ofW HT_.out HW_.out (by kernel_rfl)) (fun _ _ _ h => h) (Or.inl ⟨by rfl, ?_⟩) hHeld ?_ ?_
          rotate_left
          ·rintro w' ⟨s0, s1, s2, s3, s4, s5, s6, s7, s8, s9, s10, s11⟩
           go_simp
           with_reducible rfl
          rotate_left
          ·simp only [Act.put, List.setIfInBounds_toArray, List.set_cons_zero, List.set_cons_succ, i64_w, i32_w]
           rfl
          refine pure_ (i := 9) (N := some 52) (v := ?_) (a' := ?_) #[true, true, true, true, true, true, true, true, true, true, false, false, false] rfl rfl (any_of HT_.out (by kernel_rfl)) (fun _ _ _ h => h) (Or.inl ⟨by rfl, ?_⟩) ?_ ?_
          rotate_left
          ·intro w'
           go_simp
           with_reducible rfl
          rotate_left
          ·simp only [Act.put, List.setIfInBounds_toArray, List.set_cons_zero, List.set_cons_succ, i64_w, i32_w]
           rfl
          refine take_ (i := 10) (N := some 53) (v := ?_) (a' := ?_) #[true, true, true, true, true, true, true, true, true, true, true, false, false] rfl rfl (take_ofW HT_.out HW_.out (by kernel_rfl)) (fun _ _ _ h => h) (Or.inl ⟨by rfl, ?_⟩) hHeld ?_ ?_
          rotate_left
          ·rintro w' ⟨s0, s1, s2, s3, s4, s5, s6, s7, s8, s9, s10, s11⟩
           go_simp
           with_reducible rfl
          rotate_left
          ·simp only [Act.put, List.setIfInBounds_toArray, List.set_cons_zero, List.set_cons_succ, i64_w, i32_w]
           rfl
          refine pure_ (i := 11) (N := some 54) (v := ?_) (a' := ?_) #[true, true, true, true, true, true, true, true, true, true, true, true, false] rfl rfl (any_of HT_.out (by kernel_rfl)) (fun _ _ _ h => h) (Or.inl ⟨by rfl, ?_⟩) ?_ ?_
          rotate_left
          ·intro w'
           go_simp
           with_reducible rfl
          rotate_left
          ·simp only [Act.put, List.setIfInBounds_toArray, List.set_cons_zero, List.set_cons_succ, i64_w, i32_w]
           rfl
          refine pure_ (i := 12) (N := some 55) (v := ?_) (a' := ?_) #[true, true, true, true, true, true, true, true, true, true, true, true, true] rfl rfl (any_of HT_.out (by kernel_rfl)) (fun _ _ _ h => h) (Or.inl ⟨by rfl, ?_⟩) ?_ ?_
          rotate_left
          ·intro w'
           go_simp
           with_reducible rfl
          rotate_left
          ·simp only [Act.put, List.setIfInBounds_toArray, List.set_cons_zero, List.set_cons_succ, i64_w, i32_w]
           rfl
          refine done_ (done_of HT_.out (by kernel_rfl)) ?_
          try go_wp2
          go_loopg [6] k2 (fun kq v6 w' => ∃ (x6_3 : Int), v6 = .int .i64 x6_3 ∧ Aside0 (turntableref05_SameFunc.l1 kq x5_2 x6_3 a0_0 l0_1 a0_2 l0_3 a0_4 a1_0 l1_1 a1_2 l1_3 a1_4 = some r) ∧ Aside0 (kq ≤ k2) ∧ Aside0 (w'.heap[gb452]? = some (.cells #[.string a0_0, (.slice A0_1 l0_1.length c0_1), .int .i64 a0_2, (.slice (some ad455) l0_3.length c0_3), .int .i64 a0_4] 34 (0, 0))) ∧ Aside0 (w'.heap[gb453]? = some (.cells #[.string a1_0, (.slice A1_1 l1_1.length c1_1), .int .i64 a1_2, (.slice (some ad456) l1_3.length c1_3), .int .i64 a1_4] 34 (0, 0))) ∧ Aside0 (Below w.heap.size w w'))
          case atStart => exact ⟨(0), (by first | rfl | (simp; done) | (simp [*]; done)), H', ⟨Nat.le_refl _⟩, ⟨zK BK452.out⟩, ⟨zK BK453.out⟩, ⟨zD HB.out GE452.out GE453.out⟩⟩
          case round =>
           clear H'
           try clear c1
           try clear c2
           try clear p2
           try clear c4
           try clear p4
           try clear q4
           try clear hx4
           try clear c6
           try clear c6b0
           try clear c6b1
           try clear c7
           try clear c7b0
           try clear c7b1
           try clear c9
           try clear c10
           try clear c13
           try clear c16
           try clear c19
           try clear c22
           try clear c23
           try clear c23b0
           try clear c24
           try clear c24b0
           try clear c25
           try clear c25b0
           try clear c26
           try clear c26b0
           try clear c26b1
           try clear c26b2
           try clear c27
           try clear hcz11_0
           try clear hcz11_1
           try clear hcz11_2
           try clear hcz11_3
           try clear hcz11_4
           try clear hcz12_0
           try clear hcz12_1
           try clear hcz12_2
           try clear hcz12_3
           try clear hcz12_4
           try clear hcz14_0
           try clear hcz14_1
           try clear hcz14_2
           try clear hcz14_3
           try clear hcz14_4
           try clear hcz15_0
           try clear hcz15_1
           try clear hcz15_2
           try clear hcz15_3
           try clear hcz15_4
           try clear hcz17_0
           try clear hcz17_1
           try clear hcz17_2
           try clear hcz17_3
           try clear hcz17_4
           try clear hcz18_0
           try clear hcz18_1
           try clear hcz18_2
           try clear hcz18_3
           try clear hcz18_4
           try clear hcz20_0
           try clear hcz20_1
           try clear hcz20_2
           try clear hcz20_3
           try clear hcz20_4
           try clear hcz21_0
           try clear hcz21_1
           try clear hcz21_2
           try clear hcz21_3
           try clear hcz21_4
           try clear hcz28_0
           try clear hcz28_1
           try clear hcz28_2
           try clear hcz28_3
           try clear hcz28_4
           try clear hfz11_0
           try clear hfz11_1
           try clear hfz11_2
           try clear hfz11_3
           try clear hfz11_4
           try clear hfz12_0
           try clear hfz12_1
           try clear hfz12_2
           try clear hfz12_3
           try clear hfz12_4
           try clear hfz14_0
           try clear hfz14_1
           try clear hfz14_2
           try clear hfz14_3
           try clear hfz14_4
           try clear hfz15_0
           try clear hfz15_1
           try clear hfz15_2
           try clear hfz15_3
           try clear hfz15_4
           try clear hfz17_0
           try clear hfz17_1
           try clear hfz17_2
           try clear hfz17_3
           try clear hfz17_4
           try clear hfz18_0
           try clear hfz18_1
           try clear hfz18_2
           try clear hfz18_3
           try clear hfz18_4
           try clear hfz20_0
           try clear hfz20_1
           try clear hfz20_2
           try clear hfz20_3
           try clear hfz20_4
           try clear hfz21_0
           try clear hfz21_1
           try clear hfz21_2
           try clear hfz21_3
           try clear hfz21_4
           try clear hfz28_0
           try clear hfz28_1
           try clear hfz28_2
           try clear hfz28_3
           try clear hfz28_4
           try clear hx455_0
           try clear hx456_0
           try clear p2
           try clear p455
           try clear p456
           try clear q455
           try clear q456
           obtain ⟨x6_3, rfl, HA, HK3, BK452, BK453, HB⟩ := hrel
           cases gk with
           | zero => exact absurd HA.out (by simp [turntableref05_SameFunc.l1])
           | succ k3 =>
            have H := HA.out
            clear HA
            simp only [turntableref05_SameFunc.l1] at H
            by_cases c30 : 0 ≤ x5_2
            ·rw [if_pos c30] at H
             have c30b0 : decide (0 ≤ x5_2) = true := decide_eq_true c30
             clear c30
             by_cases c31 : x5_2 < (l0_3.length : Int)
             ·rw [if_pos c31] at H
              have c31b0 : decide (x5_2 < (l0_3.length : Int)) = true := decide_eq_true c31
              clear c31
              by_cases c32 : x6_3 < ((rd_L4 l0_3 x5_2).length : Int)
              ·rw [if_pos c32] at H
               have c32b0 : decide (x6_3 < ((rd_L4 l0_3 x5_2).length : Int)) = true := decide_eq_true c32
               clear c32
               by_cases c33 : 0 ≤ x6_3
               ·rw [if_pos c33] at H
                have c33b0 : decide (0 ≤ x6_3) = true := decide_eq_true c33
                clear c33
                by_cases c34 : x5_2 < (l1_3.length : Int)
                ·rw [if_pos c34] at H
                 have c34b0 : decide (x5_2 < (l1_3.length : Int)) = true := decide_eq_true c34
                 clear c34
                 by_cases c35 : x6_3 < ((rd_L4 l1_3 x5_2).length : Int)
                 ·rw [if_pos c35] at H
                  have c35b0 : decide (x6_3 < ((rd_L4 l1_3 x5_2).length : Int)) = true := decide_eq_true c35
                  clear c35
                  replace H := Option.bind_eq_some_iff.mp H
                  obtain ⟨t462, A360, H⟩ := H
                  replace H : (if t462 = true then (turntableref05_SameFunc.l1 k3 x5_2 (wrap64 (x6_3 + 1)) a0_0 l0_1 a0_2 l0_3 a0_4 a1_0 l1_1 a1_2 l1_3 a1_4) else (some false)) = some r := H
                  have A36 := Aside0.mk A360
                  clear A360
                  by_cases c37 : t462 = true
                  ·subst c37
                   have H1 : (turntableref05_SameFunc.l1 k3 x5_2 (wrap64 (x6_3 + 1)) a0_0 l0_1 a0_2 l0_3 a0_4 a1_0 l1_1 a1_2 l1_3 a1_4) = some r := by rw [if_pos rfl] at H; exact H
                   clear H
                   have H := H1
                   clear H1
                   have H' := Aside0.mk H
                   clear H
                   have hnb38 := NB452_453.out
                   have hnc38 := NB453_452.out
                   have hcz39_0 : wr.cell? ⟨gb452, 0, none⟩ = some (.string a0_0) := (blk_cell BK452.out 0).trans rfl
                   have hcz39_1 : wr.cell? ⟨gb452, 1, none⟩ = some (.slice A0_1 l0_1.length c0_1) := (blk_cell BK452.out 1).trans rfl
                   have hcz39_2 : wr.cell? ⟨gb452, 2, none⟩ = some (.int .i64 a0_2) := (blk_cell BK452.out 2).trans rfl
                   have hcz39_3 : wr.cell? ⟨gb452, 3, none⟩ = some (.slice (some ad455) l0_3.length c0_3) := (blk_cell BK452.out 3).trans rfl
                   have hcz39_4 : wr.cell? ⟨gb452, 4, none⟩ = some (.int .i64 a0_4) := (blk_cell BK452.out 4).trans rfl
                   have hfz39_0 := blk_frozen BK452.out 0
                   have hfz39_1 := blk_frozen BK452.out 1
                   have hfz39_2 := blk_frozen BK452.out 2
                   have hfz39_3 := blk_frozen BK452.out 3
                   have hfz39_4 := blk_frozen BK452.out 4
                   have p457 : 0 ≤ (x5_2 : Int) := of_decide_eq_true zS
                   have q457 : x5_2 < (l0_3.length : Int) := of_decide_eq_true zS
                   obtain ⟨ad457, A457_0, c457_0, e457, hx457_0, hl457_0, hi457_0⟩ := at_L4 HR0_3.out x5_2 p457 q457
                   obtain rfl : ad455 = ad457 := (by injection e457)
                   replace hx457_0 := (HB.out.cell (World.block_lt_of_cell? w _ hx457_0)).trans hx457_0
                   have HR457_0 := Aside0.mk hi457_0
                   have HC457_0 := Aside0.mk hl457_0
                   clear hi457_0 hl457_0
                   replace p457 := eq_true p457
                   replace q457 := eq_true q457
                   try go_wp2
                   have n0_ := Aside0.mk (blk_drew BK452.out)
                   have n1_ := Aside0.mk (blk_drew BK453.out)
                   have n2_ := Aside0.mk (below_drew1 HB.out)
                   clear BK452
                   clear BK453
                   clear HB
                   have BK452 := n0_
                   have BK453 := n1_
                   have HB := n2_
                   clear n0_ n1_ n2_
                   have p458 : 0 ≤ (x5_2 : Int) := of_decide_eq_true zS
                   have q458 : x5_2 < (l0_3.length : Int) := of_decide_eq_true zS
                   obtain ⟨ad458, A458_0, c458_0, e458, hx458_0, hl458_0, hi458_0⟩ := at_L4 HR0_3.out x5_2 p458 q458
                   have hw458_0 := hx458_0
                   obtain rfl : ad455 = ad458 := (by injection e458)
                   replace hx458_0 := (HB.out.cell (World.block_lt_of_cell? w _ hx458_0)).trans hx458_0
                   have HR458_0 := Aside0.mk hi458_0
                   have HC458_0 := Aside0.mk hl458_0
                   clear hi458_0 hl458_0
                   replace p458 := eq_true p458
                   replace q458 := eq_true q458
                   have p459 : 0 ≤ (x6_3 : Int) := of_decide_eq_true zS
                   have q459 : x6_3 < ((rd_L4 l0_3 x5_2).length : Int) := of_decide_eq_true zS
                   obtain ⟨ad459, A459_4, c459_4, A459_5, c459_5, e459, hx459_0, hx459_1, hx459_2, hx459_3, hx459_4, hx459_5, hx459_6, hx459_7, hl459_4, hi459_4, hl459_5, hi459_5⟩ := at_T39 HR458_0.out x6_3 p459 q459
                   have hw459_7 := hx459_7
                   have hw459_6 := hx459_6
                   have hw459_5 := hx459_5
                   have hw459_4 := hx459_4
                   have hw459_3 := hx459_3
                   have hw459_2 := hx459_2
                   have hw459_1 := hx459_1
                   have hw459_0 := hx459_0
                   cases e459
                   replace hx459_0 := (HB.out.cell (World.block_lt_of_cell? w _ hx459_0)).trans hx459_0
                   replace hx459_1 := (HB.out.cell (World.block_lt_of_cell? w _ hx459_1)).trans hx459_1
                   replace hx459_2 := (HB.out.cell (World.block_lt_of_cell? w _ hx459_2)).trans hx459_2
                   replace hx459_3 := (HB.out.cell (World.block_lt_of_cell? w _ hx459_3)).trans hx459_3
                   replace hx459_4 := (HB.out.cell (World.block_lt_of_cell? w _ hx459_4)).trans hx459_4
                   replace hx459_5 := (HB.out.cell (World.block_lt_of_cell? w _ hx459_5)).trans hx459_5
                   replace hx459_6 := (HB.out.cell (World.block_lt_of_cell? w _ hx459_6)).trans hx459_6
                   replace hx459_7 := (HB.out.cell (World.block_lt_of_cell? w _ hx459_7)).trans hx459_7
                   have HR459_4 := Aside0.mk hi459_4
                   have HC459_4 := Aside0.mk hl459_4
                   clear hi459_4 hl459_4
                   have HR459_5 := Aside0.mk hi459_5
                   have HC459_5 := Aside0.mk hl459_5
                   clear hi459_5 hl459_5
                   replace p459 := eq_true p459
                   replace q459 := eq_true q459
                   have p460 : 0 ≤ (x5_2 : Int) := of_decide_eq_true zS
                   have q460 : x5_2 < (l1_3.length : Int) := of_decide_eq_true zS
                   obtain ⟨ad460, A460_0, c460_0, e460, hx460_0, hl460_0, hi460_0⟩ := at_L4 HR1_3.out x5_2 p460 q460
                   have hw460_0 := hx460_0
                   obtain rfl : ad456 = ad460 := (by injection e460)
                   replace hx460_0 := (HB.out.cell (World.block_lt_of_cell? w _ hx460_0)).trans hx460_0
                   have HR460_0 := Aside0.mk hi460_0
                   have HC460_0 := Aside0.mk hl460_0
                   clear hi460_0 hl460_0
                   replace p460 := eq_true p460
                   replace q460 := eq_true q460
                   have p461 : 0 ≤ (x6_3 : Int) := of_decide_eq_true zS
                   have q461 : x6_3 < ((rd_L4 l1_3 x5_2).length : Int) := of_decide_eq_true zS
                   obtain ⟨ad461, A461_4, c461_4, A461_5, c461_5, e461, hx461_0, hx461_1, hx461_2, hx461_3, hx461_4, hx461_5, hx461_6, hx461_7, hl461_4, hi461_4, hl461_5, hi461_5⟩ := at_T39 HR460_0.out x6_3 p461 q461
                   have hw461_7 := hx461_7
                   have hw461_6 := hx461_6
                   have hw461_5 := hx461_5
                   have hw461_4 := hx461_4
                   have hw461_3 := hx461_3
                   have hw461_2 := hx461_2
                   have hw461_1 := hx461_1
                   have hw461_0 := hx461_0
                   cases e461
                   replace hx461_0 := (HB.out.cell (World.block_lt_of_cell? w _ hx461_0)).trans hx461_0
                   replace hx461_1 := (HB.out.cell (World.block_lt_of_cell? w _ hx461_1)).trans hx461_1
                   replace hx461_2 := (HB.out.cell (World.block_lt_of_cell? w _ hx461_2)).trans hx461_2
                   replace hx461_3 := (HB.out.cell (World.block_lt_of_cell? w _ hx461_3)).trans hx461_3
                   replace hx461_4 := (HB.out.cell (World.block_lt_of_cell? w _ hx461_4)).trans hx461_4
                   replace hx461_5 := (HB.out.cell (World.block_lt_of_cell? w _ hx461_5)).trans hx461_5
                   replace hx461_6 := (HB.out.cell (World.block_lt_of_cell? w _ hx461_6)).trans hx461_6
                   replace hx461_7 := (HB.out.cell (World.block_lt_of_cell? w _ hx461_7)).trans hx461_7
                   have HR461_4 := Aside0.mk hi461_4
                   have HC461_4 := Aside0.mk hl461_4
                   clear hi461_4 hl461_4
                   have HR461_5 := Aside0.mk hi461_5
                   have HC461_5 := Aside0.mk hl461_5
                   clear hi461_5 hl461_5
                   replace p461 := eq_true p461
                   replace q461 := eq_true q461
                   refine start_ (n := 18) (S := fun w' => w'.cell? ⟨gb452, 0, none⟩ = some (.string a0_0) ∧ w'.cell? ⟨gb452, 1, none⟩ = some (.slice A0_1 l0_1.length c0_1) ∧ w'.cell? ⟨gb452, 2, none⟩ = some (.int .i64 a0_2) ∧ w'.cell? ⟨gb452, 3, none⟩ = some (.slice (some ad455) l0_3.length c0_3) ∧ w'.cell? ⟨gb452, 4, none⟩ = some (.int .i64 a0_4) ∧ w'.cell? ⟨gb453, 0, none⟩ = some (.string a1_0) ∧ w'.cell? ⟨gb453, 1, none⟩ = some (.slice A1_1 l1_1.length c1_1) ∧ w'.cell? ⟨gb453, 2, none⟩ = some (.int .i64 a1_2) ∧ w'.cell? ⟨gb453, 3, none⟩ = some (.slice (some ad456) l1_3.length c1_3) ∧ w'.cell? ⟨gb453, 4, none⟩ = some (.int .i64 a1_4) ∧ w'.cell? (ad455.add (x5_2).toNat) = some (.slice (some ad459) (rd_L4 l0_3 x5_2).length c458_0) ∧ w'.cell? (ad459.add ((x6_3).toNat * 8)) = some (.int .i64 ((rd_T39 (rd_L4 l0_3 x5_2) x6_3).f0)) ∧ w'.cell? ⟨(ad459.add ((x6_3).toNat * 8)).block, (ad459.add ((x6_3).toNat * 8)).off + 1, none⟩ = some (.int .i64 ((rd_T39 (rd_L4 l0_3 x5_2) x6_3).f1)) ∧ w'.cell? ⟨(ad459.add ((x6_3).toNat * 8)).block, (ad459.add ((x6_3).toNat * 8)).off + 2, none⟩ = some (.int .i64 ((rd_T39 (rd_L4 l0_3 x5_2) x6_3).f2)) ∧ w'.cell? ⟨(ad459.add ((x6_3).toNat * 8)).block, (ad459.add ((x6_3).toNat * 8)).off + 3, none⟩ = some (.int .i64 ((rd_T39 (rd_L4 l0_3 x5_2) x6_3).f3)) ∧ w'.cell? ⟨(ad459.add ((x6_3).toNat * 8)).block, (ad459.add ((x6_3).toNat * 8)).off + 4, none⟩ = some (.slice A459_4 ((rd_T39 (rd_L4 l0_3 x5_2) x6_3).f4).length c459_4) ∧ w'.cell? ⟨(ad459.add ((x6_3).toNat * 8)).block, (ad459.add ((x6_3).toNat * 8)).off + 5, none⟩ = some (.slice A459_5 ((rd_T39 (rd_L4 l0_3 x5_2) x6_3).f5).length c459_5) ∧ w'.cell? ⟨(ad459.add ((x6_3).toNat * 8)).block, (ad459.add ((x6_3).toNat * 8)).off + 6, none⟩ = some (.string ((rd_T39 (rd_L4 l0_3 x5_2) x6_3).f6)) ∧ w'.cell? ⟨(ad459.add ((x6_3).toNat * 8)).block, (ad459.add ((x6_3).toNat * 8)).off + 7, none⟩ = some (.int .i64 ((rd_T39 (rd_L4 l0_3 x5_2) x6_3).f7)) ∧ w'.cell? (ad456.add (x5_2).toNat) = some (.slice (some ad461) (rd_L4 l1_3 x5_2).length c460_0) ∧ w'.cell? (ad461.add ((x6_3).toNat * 8)) = some (.int .i64 ((rd_T39 (rd_L4 l1_3 x5_2) x6_3).f0)) ∧ w'.cell? ⟨(ad461.add ((x6_3).toNat * 8)).block, (ad461.add ((x6_3).toNat * 8)).off + 1, none⟩ = some (.int .i64 ((rd_T39 (rd_L4 l1_3 x5_2) x6_3).f1)) ∧ w'.cell? ⟨(ad461.add ((x6_3).toNat * 8)).block, (ad461.add ((x6_3).toNat * 8)).off + 2, none⟩ = some (.int .i64 ((rd_T39 (rd_L4 l1_3 x5_2) x6_3).f2)) ∧ w'.cell? ⟨(ad461.add ((x6_3).toNat * 8)).block, (ad461.add ((x6_3).toNat * 8)).off + 3, none⟩ = some (.int .i64 ((rd_T39 (rd_L4 l1_3 x5_2) x6_3).f3)) ∧ w'.cell? ⟨(ad461.add ((x6_3).toNat * 8)).block, (ad461.add ((x6_3).toNat * 8)).off + 4, none⟩ = some (.slice A461_4 ((rd_T39 (rd_L4 l1_3 x5_2) x6_3).f4).length c461_4) ∧ w'.cell? ⟨(ad461.add ((x6_3).toNat * 8)).block, (ad461.add ((x6_3).toNat * 8)).off + 5, none⟩ = some (.slice A461_5 ((rd_T39 (rd_L4 l1_3 x5_2) x6_3).f5).length c461_5) ∧ w'.cell? ⟨(ad461.add ((x6_3).toNat * 8)).block, (ad461.add ((x6_3).toNat * 8)).off + 6, none⟩ = some (.string ((rd_T39 (rd_L4 l1_3 x5_2) x6_3).f6)) ∧ w'.cell? ⟨(ad461.add ((x6_3).toNat * 8)).block, (ad461.add ((x6_3).toNat * 8)).off + 7, none⟩ = some (.int .i64 ((rd_T39 (rd_L4 l1_3 x5_2) x6_3).f7))) (ds := []) #[false, false, false, false, false, false, false, false, false, false, false, false, false, false, false, false, false, false] (by kernel_rfl) rfl rfl ⟨(blk_cell BK452.out 0).trans rfl, (blk_cell BK452.out 1).trans rfl, (blk_cell BK452.out 2).trans rfl, (blk_cell BK452.out 3).trans rfl, (blk_cell BK452.out 4).trans rfl, (blk_cell BK453.out 0).trans rfl, (blk_cell BK453.out 1).trans rfl, (blk_cell BK453.out 2).trans rfl, (blk_cell BK453.out 3).trans rfl, (blk_cell BK453.out 4).trans rfl, ((HB.out.cell (World.block_lt_of_cell? w _ hw458_0)).trans hw458_0), ((HB.out.cell (World.block_lt_of_cell? w _ hw459_0)).trans hw459_0), ((HB.out.cell (World.block_lt_of_cell? w _ hw459_1)).trans hw459_1), ((HB.out.cell (World.block_lt_of_cell? w _ hw459_2)).trans hw459_2), ((HB.out.cell (World.block_lt_of_cell? w _ hw459_3)).trans hw459_3), ((HB.out.cell (World.block_lt_of_cell? w _ hw459_4)).trans hw459_4), ((HB.out.cell (World.block_lt_of_cell? w _ hw459_5)).trans hw459_5), ((HB.out.cell (World.block_lt_of_cell? w _ hw459_6)).trans hw459_6), ((HB.out.cell (World.block_lt_of_cell? w _ hw459_7)).trans hw459_7), ((HB.out.cell (World.block_lt_of_cell? w _ hw460_0)).trans hw460_0), ((HB.out.cell (World.block_lt_of_cell? w _ hw461_0)).trans hw461_0), ((HB.out.cell (World.block_lt_of_cell? w _ hw461_1)).trans hw461_1), ((HB.out.cell (World.block_lt_of_cell? w _ hw461_2)).trans hw461_2), ((HB.out.cell (World.block_lt_of_cell? w _ hw461_3)).trans hw461_3), ((HB.out.cell (World.block_lt_of_cell? w _ hw461_4)).trans hw461_4), ((HB.out.cell (World.block_lt_of_cell? w _ hw461_5)).trans hw461_5), ((HB.out.cell (World.block_lt_of_cell? w _ hw461_6)).trans hw461_6), ((HB.out.cell (World.block_lt_of_cell? w _ hw461_7)).trans hw461_7)⟩ (fun hHeld => ?_); refine with_tabW turntableref05_SameFunc.tab11 turntableref05_SameFunc.bits11 (fun HT_ HW_ => ?_)
                   generalize wr.drew = w40 at BK452 BK453 HB HR458_0 HR459_4 HR459_5 HR460_0 HR461_4 HR461_5 hx458_0 hx459_0 hx459_1 hx459_2 hx459_3 hx459_4 hx459_5 hx459_6 hx459_7 hx460_0 hx461_0 hx461_1 hx461_2 hx461_3 hx461_4 hx461_5 hx461_6 hx461_7 hHeld ⊢
                   refine pure_ (i := 0) (N := some 66) (v := ?_) (a' := ?_) #[true, false, false, false, false, false, false, false, false, false, false, false, false, false, false, false, false, false] rfl rfl (any_of HT_.out (by kernel_rfl)) (fun _ _ _ h => h) (Or.inl ⟨by rfl, ?_⟩) ?_ ?_
                   rotate_left
                   ·intro w'
                    go_simp
                    with_reducible rfl
                   rotate_left
                   ·simp only [Act.put, List.setIfInBounds_toArray, List.set_cons_zero, List.set_cons_succ, i64_w, i32_w]
                    rfl
                   refine pure_ (i := 2) (N := some 68) (v := ?_) (a' := ?_) #[true, false, true, false, false, false, false, false, false, false, false, false, false, false, false, false, false, false] rfl rfl (any_of HT_.out (by kernel_rfl)) (fun _ _ _ h => h) (Or.inl ⟨by rfl, ?_⟩) ?_ ?_
                   rotate_left
                   ·intro w'
                    go_simp
                    with_reducible rfl
                   rotate_left
                   ·simp only [Act.put, List.setIfInBounds_toArray, List.set_cons_zero, List.set_cons_succ, i64_w, i32_w]
                    rfl
                   refine pure_ (i := 5) (N := some 71) (v := ?_) (a' := ?_) #[true, false, true, false, false, true, false, false, false, false, false, false, false, false, false, false, false, false] rfl rfl (any_of HT_.out (by kernel_rfl)) (fun _ _ _ h => h) (Or.inl ⟨by rfl, ?_⟩) ?_ ?_
                   rotate_left
                   ·intro w'
                    go_simp
                    with_reducible rfl
                   rotate_left
                   ·simp only [Act.put, List.setIfInBounds_toArray, List.set_cons_zero, List.set_cons_succ, i64_w, i32_w]
                    rfl
                   refine pure_ (i := 8) (N := some 74) (v := ?_) (a' := ?_) #[true, false, true, false, false, true, false, false, true, false, false, false, false, false, false, false, false, false] rfl rfl (any_of HT_.out (by kernel_rfl)) (fun _ _ _ h => h) (Or.inl ⟨by rfl, ?_⟩) ?_ ?_
                   rotate_left
                   ·intro w'
                    go_simp
                    with_reducible rfl
                   rotate_left
                   ·simp only [Act.put, List.setIfInBounds_toArray, List.set_cons_zero, List.set_cons_succ, i64_w, i32_w]
                    rfl
                   refine pure_ (i := 10) (N := some 76) (v := ?_) (a' := ?_) #[true, false, true, false, false, true, false, false, true, false, true, false, false, false, false, false, false, false] rfl rfl (any_of HT_.out (by kernel_rfl)) (fun _ _ _ h => h) (Or.inl ⟨by rfl, ?_⟩) ?_ ?_
                   rotate_left
                   ·intro w'
                    go_simp
                    with_reducible rfl
                   rotate_left
                   ·simp only [Act.put, List.setIfInBounds_toArray, List.set_cons_zero, List.set_cons_succ, i64_w, i32_w]
                    rfl
                   refine pure_ (i := 13) (N := some 79) (v := ?_) (a' := ?_) #[true, false, true, false, false, true, false, false, true, false, true, false, false, true, false, false, false, false] rfl rfl (any_of HT_.out (by kernel_rfl)) (fun _ _ _ h => h) (Or.inl ⟨by rfl, ?_⟩) ?_ ?_
                   rotate_left
                   ·intro w'
                    go_simp
                    with_reducible rfl
                   rotate_left
                   ·simp only [Act.put, List.setIfInBounds_toArray, List.set_cons_zero, List.set_cons_succ, i64_w, i32_w]
                    rfl
                   refine take_ (i := 1) (N := some 67) (v := ?_) (a' := ?_) #[true, true, true, false, false, true, false, false, true, false, true, false, false, true, false, false, false, false] rfl rfl (take_ofW HT_.out HW_.out (by kernel_rfl)) (fun _ _ _ h => h) (Or.inl ⟨by rfl, ?_⟩) hHeld ?_ ?_
                   rotate_left
                   ·rintro w' ⟨s0, s1, s2, s3, s4, s5, s6, s7, s8, s9, s10, s11, s12, s13, s14, s15, s16, s17, s18, s19, s20, s21, s22, s23, s24, s25, s26, s27⟩
                    go_simp
                    with_reducible rfl
                   rotate_left
                   ·simp only [Act.put, List.setIfInBounds_toArray, List.set_cons_zero, List.set_cons_succ, i64_w, i32_w]
                    rfl
                   refine pure_ (i := 3) (N := some 69) (v := ?_) (a' := ?_) #[true, true, true, true, false, true, false, false, true, false, true, false, false, true, false, false, false, false] rfl rfl (any_of HT_.out (by kernel_rfl)) (fun _ _ _ h => h) (Or.inl ⟨by rfl, ?_⟩) ?_ ?_
                   rotate_left
                   ·intro w'
                    go_simp
                    with_reducible rfl
                   rotate_left
                   ·simp only [Act.put, List.setIfInBounds_toArray, List.set_cons_zero, List.set_cons_succ, i64_w, i32_w]
                    rfl
                   refine take_ (i := 4) (N := some 70) (v := ?_) (a' := ?_) #[true, true, true, true, true, true, false, false, true, false, true, false, false, true, false, false, false, false] rfl rfl (take_ofW HT_.out HW_.out (by kernel_rfl)) (fun _ _ _ h => h) (Or.inl ⟨by rfl, ?_⟩) hHeld ?_ ?_
                   rotate_left
                   ·rintro w' ⟨s0, s1, s2, s3, s4, s5, s6, s7, s8, s9, s10, s11, s12, s13, s14, s15, s16, s17, s18, s19, s20, s21, s22, s23, s24, s25, s26, s27⟩
                    go_simp
                    with_reducible rfl
                   rotate_left
                   ·simp only [Act.put, List.setIfInBounds_toArray, List.set_cons_zero, List.set_cons_succ, i64_w, i32_w]
                    rfl
                   refine pure_ (i := 6) (N := some 72) (v := ?_) (a' := ?_) #[true, true, true, true, true, true, true, false, true, false, true, false, false, true, false, false, false, false] rfl rfl (any_of HT_.out (by kernel_rfl)) (fun _ _ _ h => h) (Or.inl ⟨by rfl, ?_⟩) ?_ ?_
                   rotate_left
                   ·intro w'
                    go_simp
                    with_reducible rfl
                   rotate_left
                   ·simp only [Act.put, List.setIfInBounds_toArray, List.set_cons_zero, List.set_cons_succ, i64_w, i32_w]
                    rfl
                   refine take_ (i := 7) (N := some 73) (v := ?_) (a' := ?_) #[true, true, true, true, true, true, true, true, true, false, true, false, false, true, false, false, false, false] rfl rfl (take_ofW HT_.out HW_.out (by kernel_rfl)) (fun _ _ _ h => h) (Or.inl ⟨by rfl, ?_⟩) hHeld ?_ ?_
                   rotate_left
                   ·rintro w' ⟨s0, s1, s2, s3, s4, s5, s6, s7, s8, s9, s10, s11, s12, s13, s14, s15, s16, s17, s18, s19, s20, s21, s22, s23, s24, s25, s26, s27⟩
                    go_simp
                    with_reducible rfl
                   rotate_left
                   ·simp only [Act.put, List.setIfInBounds_toArray, List.set_cons_zero, List.set_cons_succ, i64_w, i32_w]
                    rfl
                   refine take_ (i := 9) (N := some 75) (v := ?_) (a' := ?_) #[true, true, true, true, true, true, true, true, true, true, true, false, false, true, false, false, false, false] rfl rfl (take_ofW HT_.out HW_.out (by kernel_rfl)) (fun _ _ _ h => h) (Or.inl ⟨by rfl, ?_⟩) hHeld ?_ ?_
                   rotate_left
                   ·rintro w' ⟨s0, s1, s2, s3, s4, s5, s6, s7, s8, s9, s10, s11, s12, s13, s14, s15, s16, s17, s18, s19, s20, s21, s22, s23, s24, s25, s26, s27⟩
                    go_simp
                    with_reducible rfl
                   rotate_left
                   ·simp only [Act.put, List.setIfInBounds_toArray, List.set_cons_zero, List.set_cons_succ, i64_w, i32_w]
                    rfl
                   refine pure_ (i := 11) (N := some 77) (v := ?_) (a' := ?_) #[true, true, true, true, true, true, true, true, true, true, true, true, false, true, false, false, false, false] rfl rfl (any_of HT_.out (by kernel_rfl)) (fun _ _ _ h => h) (Or.inl ⟨by rfl, ?_⟩) ?_ ?_
                   rotate_left
                   ·intro w'
                    go_simp
                    with_reducible rfl
                   rotate_left
                   ·simp only [Act.put, List.setIfInBounds_toArray, List.set_cons_zero, List.set_cons_succ, i64_w, i32_w]
                    rfl
                   refine take_ (i := 12) (N := some 78) (v := ?_) (a' := ?_) #[true, true, true, true, true, true, true, true, true, true, true, true, true, true, false, false, false, false] rfl rfl (take_ofW HT_.out HW_.out (by kernel_rfl)) (fun _ _ _ h => h) (Or.inl ⟨by rfl, ?_⟩) hHeld ?_ ?_
                   rotate_left
                   ·rintro w' ⟨s0, s1, s2, s3, s4, s5, s6, s7, s8, s9, s10, s11, s12, s13, s14, s15, s16, s17, s18, s19, s20, s21, s22, s23, s24, s25, s26, s27⟩
                    go_simp
                    with_reducible rfl
                   rotate_left
                   ·simp only [Act.put, List.setIfInBounds_toArray, List.set_cons_zero, List.set_cons_succ, i64_w, i32_w]
                    rfl
                   refine pure_ (i := 14) (N := some 80) (v := ?_) (a' := ?_) #[true, true, true, true, true, true, true, true, true, true, true, true, true, true, true, false, false, false] rfl rfl (any_of HT_.out (by kernel_rfl)) (fun _ _ _ h => h) (Or.inl ⟨by rfl, ?_⟩) ?_ ?_
                   rotate_left
                   ·intro w'
                    go_simp
                    with_reducible rfl
                   rotate_left
                   ·simp only [Act.put, List.setIfInBounds_toArray, List.set_cons_zero, List.set_cons_succ, i64_w, i32_w]
                    rfl
                   refine take_ (i := 15) (N := some 81) (v := ?_) (a' := ?_) #[true, true, true, true, true, true, true, true, true, true, true, true, true, true, true, true, false, false] rfl rfl (take_ofW HT_.out HW_.out (by kernel_rfl)) (fun _ _ _ h => h) (Or.inl ⟨by rfl, ?_⟩) hHeld ?_ ?_
                   rotate_left
                   ·rintro w' ⟨s0, s1, s2, s3, s4, s5, s6, s7, s8, s9, s10, s11, s12, s13, s14, s15, s16, s17, s18, s19, s20, s21, s22, s23, s24, s25, s26, s27⟩
                    go_simp
                    with_reducible rfl
                   rotate_left
                   ·simp only [Act.put, List.setIfInBounds_toArray, List.set_cons_zero, List.set_cons_succ, i64_w, i32_w]
                    rfl
                   refine one_ (i := 16) (N := some 82) #[true, true, true, true, true, true, true, true, true, true, true, true, true, true, true, true, true, false] rfl rfl (one_of HT_.out (by kernel_rfl)) (by decide) (fun K hK => ?_)
                   refine goes_ Try.func90 (by kernel_rfl) rfl #[.agg #[.int .i64 ((rd_T39 (rd_L4 l0_3 x5_2) x6_3).f0), .int .i64 ((rd_T39 (rd_L4 l0_3 x5_2) x6_3).f1), .int .i64 ((rd_T39 (rd_L4 l0_3 x5_2) x6_3).f2), .int .i64 ((rd_T39 (rd_L4 l0_3 x5_2) x6_3).f3), .slice A459_4 ((rd_T39 (rd_L4 l0_3 x5_2) x6_3).f4).length c459_4, .slice A459_5 ((rd_T39 (rd_L4 l0_3 x5_2) x6_3).f5).length c459_5, .string ((rd_T39 (rd_L4 l0_3 x5_2) x6_3).f6), .int .i64 ((rd_T39 (rd_L4 l0_3 x5_2) x6_3).f7)], .agg #[.int .i64 ((rd_T39 (rd_L4 l1_3 x5_2) x6_3).f0), .int .i64 ((rd_T39 (rd_L4 l1_3 x5_2) x6_3).f1), .int .i64 ((rd_T39 (rd_L4 l1_3 x5_2) x6_3).f2), .int .i64 ((rd_T39 (rd_L4 l1_3 x5_2) x6_3).f3), .slice A461_4 ((rd_T39 (rd_L4 l1_3 x5_2) x6_3).f4).length c461_4, .slice A461_5 ((rd_T39 (rd_L4 l1_3 x5_2) x6_3).f5).length c461_5, .string ((rd_T39 (rd_L4 l1_3 x5_2) x6_3).f6), .int .i64 ((rd_T39 (rd_L4 l1_3 x5_2) x6_3).f7)]] (by rfl) rfl rfl zA ?_
                   with_reducible refine (turntableref05_Same.calls k3 ((rd_T39 (rd_L4 l0_3 x5_2) x6_3).f0) ((rd_T39 (rd_L4 l0_3 x5_2) x6_3).f1) ((rd_T39 (rd_L4 l0_3 x5_2) x6_3).f2) ((rd_T39 (rd_L4 l0_3 x5_2) x6_3).f3) _ _ ((rd_T39 (rd_L4 l0_3 x5_2) x6_3).f4) _ _ ((rd_T39 (rd_L4 l0_3 x5_2) x6_3).f5) ((rd_T39 (rd_L4 l0_3 x5_2) x6_3).f6) ((rd_T39 (rd_L4 l0_3 x5_2) x6_3).f7) ((rd_T39 (rd_L4 l1_3 x5_2) x6_3).f0) ((rd_T39 (rd_L4 l1_3 x5_2) x6_3).f1) ((rd_T39 (rd_L4 l1_3 x5_2) x6_3).f2) ((rd_T39 (rd_L4 l1_3 x5_2) x6_3).f3) _ _ ((rd_T39 (rd_L4 l1_3 x5_2) x6_3).f4) _ _ ((rd_T39 (rd_L4 l1_3 x5_2) x6_3).f5) ((rd_T39 (rd_L4 l1_3 x5_2) x6_3).f6) ((rd_T39 (rd_L4 l1_3 x5_2) x6_3).f7) true _ ?side1 ?side2 ?side3 ?side4 ?side5 ?side6 ?side7 ?side8 A36.out).mono ?_
                   (case side1 => repeat (first | exact (Kd.C_below HR459_4.out HB.out) | (with_reducible refine Kd.C_alloc ?_ _) | (with_reducible refine Kd.C_drewN ?_ _) | (with_reducible refine Kd.C_drew ?_)))
                   (case side2 => exact HC459_4.out)
                   (case side3 => repeat (first | exact (Kd.C_below HR459_5.out HB.out) | (with_reducible refine Kd.C_alloc ?_ _) | (with_reducible refine Kd.C_drewN ?_ _) | (with_reducible refine Kd.C_drew ?_)))
                   (case side4 => exact HC459_5.out)
                   (case side5 => repeat (first | exact (Kd.C_below HR461_4.out HB.out) | (with_reducible refine Kd.C_alloc ?_ _) | (with_reducible refine Kd.C_drewN ?_ _) | (with_reducible refine Kd.C_drew ?_)))
                   (case side6 => exact HC461_4.out)
                   (case side7 => repeat (first | exact (Kd.C_below HR461_5.out HB.out) | (with_reducible refine Kd.C_alloc ?_ _) | (with_reducible refine Kd.C_drewN ?_ _) | (with_reducible refine Kd.C_drew ?_)))
                   (case side8 => exact HC461_5.out)
                   rintro e w41 ⟨rfl, hb⟩
                   refine ⟨_, rfl, ?_⟩
                   have n0_ := Aside0.mk (blk_below (g := gb452) (o := .cells #[.string a0_0, .slice A0_1 l0_1.length c0_1, .int .i64 a0_2, .slice (some ad455) l0_3.length c0_3, .int .i64 a0_4] 34 (0, 0)) (zK BK452.out) hb)
                   have n1_ := Aside0.mk (blk_below (g := gb453) (o := .cells #[.string a1_0, .slice A1_1 l1_1.length c1_1, .int .i64 a1_2, .slice (some ad456) l1_3.length c1_3, .int .i64 a1_4] 34 (0, 0)) (zK BK453.out) hb)
                   have n2_ := Aside0.mk (below_step (zD HB.out GE452.out GE453.out) hb)
                   clear BK452
                   clear BK453
                   clear HB
                   have BK452 := n0_
                   have BK453 := n1_
                   have HB := n2_
                   clear n0_ n1_ n2_
                   (try clear hb)
                   (try clear hb2)
                   (try clear hk)
                   (try clear hi)
                   refine hK.out _ _ ⟨(blk_cell BK452.out 0).trans rfl, (blk_cell BK452.out 1).trans rfl, (blk_cell BK452.out 2).trans rfl, (blk_cell BK452.out 3).trans rfl, (blk_cell BK452.out 4).trans rfl, (blk_cell BK453.out 0).trans rfl, (blk_cell BK453.out 1).trans rfl, (blk_cell BK453.out 2).trans rfl, (blk_cell BK453.out 3).trans rfl, (blk_cell BK453.out 4).trans rfl, ((HB.out.cell (World.block_lt_of_cell? w _ hw458_0)).trans hw458_0), ((HB.out.cell (World.block_lt_of_cell? w _ hw459_0)).trans hw459_0), ((HB.out.cell (World.block_lt_of_cell? w _ hw459_1)).trans hw459_1), ((HB.out.cell (World.block_lt_of_cell? w _ hw459_2)).trans hw459_2), ((HB.out.cell (World.block_lt_of_cell? w _ hw459_3)).trans hw459_3), ((HB.out.cell (World.block_lt_of_cell? w _ hw459_4)).trans hw459_4), ((HB.out.cell (World.block_lt_of_cell? w _ hw459_5)).trans hw459_5), ((HB.out.cell (World.block_lt_of_cell? w _ hw459_6)).trans hw459_6), ((HB.out.cell (World.block_lt_of_cell? w _ hw459_7)).trans hw459_7), ((HB.out.cell (World.block_lt_of_cell? w _ hw460_0)).trans hw460_0), ((HB.out.cell (World.block_lt_of_cell? w _ hw461_0)).trans hw461_0), ((HB.out.cell (World.block_lt_of_cell? w _ hw461_1)).trans hw461_1), ((HB.out.cell (World.block_lt_of_cell? w _ hw461_2)).trans hw461_2), ((HB.out.cell (World.block_lt_of_cell? w _ hw461_3)).trans hw461_3), ((HB.out.cell (World.block_lt_of_cell? w _ hw461_4)).trans hw461_4), ((HB.out.cell (World.block_lt_of_cell? w _ hw461_5)).trans hw461_5), ((HB.out.cell (World.block_lt_of_cell? w _ hw461_6)).trans hw461_6), ((HB.out.cell (World.block_lt_of_cell? w _ hw461_7)).trans hw461_7)⟩ (fun hHeld => ?_)
                   clear hK K
                   refine norm_ (a' := ?_) ?_ ?_
                   rotate_left
                   ·show Act.put _ (some 82) _ = _
                    simp only [Act.put, List.setIfInBounds_toArray, List.set_cons_zero, List.set_cons_succ, i64_w, i32_w]
                    rfl
                   refine pure_ (i := 17) (N := some 83) (v := ?_) (a' := ?_) #[true, true, true, true, true, true, true, true, true, true, true, true, true, true, true, true, true, true] rfl rfl (any_of HT_.out (by kernel_rfl)) (fun _ _ _ h => h) (Or.inl ⟨by rfl, ?_⟩) ?_ ?_
                   rotate_left
                   ·intro w'
                    go_simp
                    with_reducible rfl
                   rotate_left
                   ·simp only [Act.put, List.setIfInBounds_toArray, List.set_cons_zero, List.set_cons_succ, i64_w, i32_w]
                    rfl
                   refine done_ (done_of HT_.out (by kernel_rfl)) ?_
                   try go_wp2
                   go_roundg k3
                   case measure => have := HJ2.out; have := HK2.out; have := HK3.out; omega
                   case rel => exact ⟨(wrap64 (x6_3 + 1)), (by first | rfl | (simp; done) | (simp [*]; done)), H', ⟨by have := HJ2.out; have := HK2.out; have := HK3.out; omega⟩, ⟨zK BK452.out⟩, ⟨zK BK453.out⟩, ⟨zD HB.out GE452.out GE453.out⟩⟩
                  ·replace c37 := Bool.eq_false_iff.mpr c37
                   subst c37
                   have H1 : (some false) = some r := by rw [if_neg (show ¬ (false = true) by decide)] at H; exact H
                   clear H
                   have H := H1
                   clear H1
                   obtain rfl := Option.some.inj H
                   have hnb42 := NB452_453.out
                   have hnc42 := NB453_452.out
                   have hcz43_0 : wr.cell? ⟨gb452, 0, none⟩ = some (.string a0_0) := (blk_cell BK452.out 0).trans rfl
                   have hcz43_1 : wr.cell? ⟨gb452, 1, none⟩ = some (.slice A0_1 l0_1.length c0_1) := (blk_cell BK452.out 1).trans rfl
                   have hcz43_2 : wr.cell? ⟨gb452, 2, none⟩ = some (.int .i64 a0_2) := (blk_cell BK452.out 2).trans rfl
                   have hcz43_3 : wr.cell? ⟨gb452, 3, none⟩ = some (.slice (some ad455) l0_3.length c0_3) := (blk_cell BK452.out 3).trans rfl
                   have hcz43_4 : wr.cell? ⟨gb452, 4, none⟩ = some (.int .i64 a0_4) := (blk_cell BK452.out 4).trans rfl
                   have hfz43_0 := blk_frozen BK452.out 0
                   have hfz43_1 := blk_frozen BK452.out 1
                   have hfz43_2 := blk_frozen BK452.out 2
                   have hfz43_3 := blk_frozen BK452.out 3
                   have hfz43_4 := blk_frozen BK452.out 4
                   have p457 : 0 ≤ (x5_2 : Int) := of_decide_eq_true zS
                   have q457 : x5_2 < (l0_3.length : Int) := of_decide_eq_true zS
                   obtain ⟨ad457, A457_0, c457_0, e457, hx457_0, hl457_0, hi457_0⟩ := at_L4 HR0_3.out x5_2 p457 q457
                   obtain rfl : ad455 = ad457 := (by injection e457)
                   replace hx457_0 := (HB.out.cell (World.block_lt_of_cell? w _ hx457_0)).trans hx457_0
                   have HR457_0 := Aside0.mk hi457_0
                   have HC457_0 := Aside0.mk hl457_0
                   clear hi457_0 hl457_0
                   replace p457 := eq_true p457
                   replace q457 := eq_true q457
                   try go_wp2
                   have n0_ := Aside0.mk (blk_drew BK452.out)
                   have n1_ := Aside0.mk (blk_drew BK453.out)
                   have n2_ := Aside0.mk (below_drew1 HB.out)
                   clear BK452
                   clear BK453
                   clear HB
                   have BK452 := n0_
                   have BK453 := n1_
                   have HB := n2_
                   clear n0_ n1_ n2_
                   have p458 : 0 ≤ (x5_2 : Int) := of_decide_eq_true zS
                   have q458 : x5_2 < (l0_3.length : Int) := of_decide_eq_true zS
                   obtain ⟨ad458, A458_0, c458_0, e458, hx458_0, hl458_0, hi458_0⟩ := at_L4 HR0_3.out x5_2 p458 q458
                   have hw458_0 := hx458_0
                   obtain rfl : ad455 = ad458 := (by injection e458)
                   replace hx458_0 := (HB.out.cell (World.block_lt_of_cell? w _ hx458_0)).trans hx458_0
                   have HR458_0 := Aside0.mk hi458_0
                   have HC458_0 := Aside0.mk hl458_0
                   clear hi458_0 hl458_0
                   replace p458 := eq_true p458
                   replace q458 := eq_true q458
                   have p459 : 0 ≤ (x6_3 : Int) := of_decide_eq_true zS
                   have q459 : x6_3 < ((rd_L4 l0_3 x5_2).length : Int) := of_decide_eq_true zS
                   obtain ⟨ad459, A459_4, c459_4, A459_5, c459_5, e459, hx459_0, hx459_1, hx459_2, hx459_3, hx459_4, hx459_5, hx459_6, hx459_7, hl459_4, hi459_4, hl459_5, hi459_5⟩ := at_T39 HR458_0.out x6_3 p459 q459
                   have hw459_7 := hx459_7
                   have hw459_6 := hx459_6
                   have hw459_5 := hx459_5
                   have hw459_4 := hx459_4
                   have hw459_3 := hx459_3
                   have hw459_2 := hx459_2
                   have hw459_1 := hx459_1
                   have hw459_0 := hx459_0
                   cases e459
                   replace hx459_0 := (HB.out.cell (World.block_lt_of_cell? w _ hx459_0)).trans hx459_0
                   replace hx459_1 := (HB.out.cell (World.block_lt_of_cell? w _ hx459_1)).trans hx459_1
                   replace hx459_2 := (HB.out.cell (World.block_lt_of_cell? w _ hx459_2)).trans hx459_2
                   replace hx459_3 := (HB.out.cell (World.block_lt_of_cell? w _ hx459_3)).trans hx459_3
                   replace hx459_4 := (HB.out.cell (World.block_lt_of_cell? w _ hx459_4)).trans hx459_4
                   replace hx459_5 := (HB.out.cell (World.block_lt_of_cell? w _ hx459_5)).trans hx459_5
                   replace hx459_6 := (HB.out.cell (World.block_lt_of_cell? w _ hx459_6)).trans hx459_6
                   replace hx459_7 := (HB.out.cell (World.block_lt_of_cell? w _ hx459_7)).trans hx459_7
                   have HR459_4 := Aside0.mk hi459_4
                   have HC459_4 := Aside0.mk hl459_4
                   clear hi459_4 hl459_4
                   have HR459_5 := Aside0.mk hi459_5
                   have HC459_5 := Aside0.mk hl459_5
                   clear hi459_5 hl459_5
                   replace p459 := eq_true p459
                   replace q459 := eq_true q459
                   have p460 : 0 ≤ (x5_2 : Int) := of_decide_eq_true zS
                   have q460 : x5_2 < (l1_3.length : Int) := of_decide_eq_true zS
                   obtain ⟨ad460, A460_0, c460_0, e460, hx460_0, hl460_0, hi460_0⟩ := at_L4 HR1_3.out x5_2 p460 q460
                   have hw460_0 := hx460_0
                   obtain rfl : ad456 = ad460 := (by injection e460)
                   replace hx460_0 := (HB.out.cell (World.block_lt_of_cell? w _ hx460_0)).trans hx460_0
                   have HR460_0 := Aside0.mk hi460_0
                   have HC460_0 := Aside0.mk hl460_0
                   clear hi460_0 hl460_0
                   replace p460 := eq_true p460
                   replace q460 := eq_true q460
                   have p461 : 0 ≤ (x6_3 : Int) := of_decide_eq_true zS
                   have q461 : x6_3 < ((rd_L4 l1_3 x5_2).length : Int) := of_decide_eq_true zS
                   obtain ⟨ad461, A461_4, c461_4, A461_5, c461_5, e461, hx461_0, hx461_1, hx461_2, hx461_3, hx461_4, hx461_5, hx461_6, hx461_7, hl461_4, hi461_4, hl461_5, hi461_5⟩ := at_T39 HR460_0.out x6_3 p461 q461
                   have hw461_7 := hx461_7
                   have hw461_6 := hx461_6
                   have hw461_5 := hx461_5
                   have hw461_4 := hx461_4
                   have hw461_3 := hx461_3
                   have hw461_2 := hx461_2
                   have hw461_1 := hx461_1
                   have hw461_0 := hx461_0
                   cases e461
                   replace hx461_0 := (HB.out.cell (World.block_lt_of_cell? w _ hx461_0)).trans hx461_0
                   replace hx461_1 := (HB.out.cell (World.block_lt_of_cell? w _ hx461_1)).trans hx461_1
                   replace hx461_2 := (HB.out.cell (World.block_lt_of_cell? w _ hx461_2)).trans hx461_2
                   replace hx461_3 := (HB.out.cell (World.block_lt_of_cell? w _ hx461_3)).trans hx461_3
                   replace hx461_4 := (HB.out.cell (World.block_lt_of_cell? w _ hx461_4)).trans hx461_4
                   replace hx461_5 := (HB.out.cell (World.block_lt_of_cell? w _ hx461_5)).trans hx461_5
                   replace hx461_6 := (HB.out.cell (World.block_lt_of_cell? w _ hx461_6)).trans hx461_6
                   replace hx461_7 := (HB.out.cell (World.block_lt_of_cell? w _ hx461_7)).trans hx461_7
                   have HR461_4 := Aside0.mk hi461_4
                   have HC461_4 := Aside0.mk hl461_4
                   clear hi461_4 hl461_4
                   have HR461_5 := Aside0.mk hi461_5
                   have HC461_5 := Aside0.mk hl461_5
                   clear hi461_5 hl461_5
                   replace p461 := eq_true p461
                   replace q461 := eq_true q461
                   refine start_ (n := 18) (S := fun w' => w'.cell? ⟨gb452, 0, none⟩ = some (.string a0_0) ∧ w'.cell? ⟨gb452, 1, none⟩ = some (.slice A0_1 l0_1.length c0_1) ∧ w'.cell? ⟨gb452, 2, none⟩ = some (.int .i64 a0_2) ∧ w'.cell? ⟨gb452, 3, none⟩ = some (.slice (some ad455) l0_3.length c0_3) ∧ w'.cell? ⟨gb452, 4, none⟩ = some (.int .i64 a0_4) ∧ w'.cell? ⟨gb453, 0, none⟩ = some (.string a1_0) ∧ w'.cell? ⟨gb453, 1, none⟩ = some (.slice A1_1 l1_1.length c1_1) ∧ w'.cell? ⟨gb453, 2, none⟩ = some (.int .i64 a1_2) ∧ w'.cell? ⟨gb453, 3, none⟩ = some (.slice (some ad456) l1_3.length c1_3) ∧ w'.cell? ⟨gb453, 4, none⟩ = some (.int .i64 a1_4) ∧ w'.cell? (ad455.add (x5_2).toNat) = some (.slice (some ad459) (rd_L4 l0_3 x5_2).length c458_0) ∧ w'.cell? (ad459.add ((x6_3).toNat * 8)) = some (.int .i64 ((rd_T39 (rd_L4 l0_3 x5_2) x6_3).f0)) ∧ w'.cell? ⟨(ad459.add ((x6_3).toNat * 8)).block, (ad459.add ((x6_3).toNat * 8)).off + 1, none⟩ = some (.int .i64 ((rd_T39 (rd_L4 l0_3 x5_2) x6_3).f1)) ∧ w'.cell? ⟨(ad459.add ((x6_3).toNat * 8)).block, (ad459.add ((x6_3).toNat * 8)).off + 2, none⟩ = some (.int .i64 ((rd_T39 (rd_L4 l0_3 x5_2) x6_3).f2)) ∧ w'.cell? ⟨(ad459.add ((x6_3).toNat * 8)).block, (ad459.add ((x6_3).toNat * 8)).off + 3, none⟩ = some (.int .i64 ((rd_T39 (rd_L4 l0_3 x5_2) x6_3).f3)) ∧ w'.cell? ⟨(ad459.add ((x6_3).toNat * 8)).block, (ad459.add ((x6_3).toNat * 8)).off + 4, none⟩ = some (.slice A459_4 ((rd_T39 (rd_L4 l0_3 x5_2) x6_3).f4).length c459_4) ∧ w'.cell? ⟨(ad459.add ((x6_3).toNat * 8)).block, (ad459.add ((x6_3).toNat * 8)).off + 5, none⟩ = some (.slice A459_5 ((rd_T39 (rd_L4 l0_3 x5_2) x6_3).f5).length c459_5) ∧ w'.cell? ⟨(ad459.add ((x6_3).toNat * 8)).block, (ad459.add ((x6_3).toNat * 8)).off + 6, none⟩ = some (.string ((rd_T39 (rd_L4 l0_3 x5_2) x6_3).f6)) ∧ w'.cell? ⟨(ad459.add ((x6_3).toNat * 8)).block, (ad459.add ((x6_3).toNat * 8)).off + 7, none⟩ = some (.int .i64 ((rd_T39 (rd_L4 l0_3 x5_2) x6_3).f7)) ∧ w'.cell? (ad456.add (x5_2).toNat) = some (.slice (some ad461) (rd_L4 l1_3 x5_2).length c460_0) ∧ w'.cell? (ad461.add ((x6_3).toNat * 8)) = some (.int .i64 ((rd_T39 (rd_L4 l1_3 x5_2) x6_3).f0)) ∧ w'.cell? ⟨(ad461.add ((x6_3).toNat * 8)).block, (ad461.add ((x6_3).toNat * 8)).off + 1, none⟩ = some (.int .i64 ((rd_T39 (rd_L4 l1_3 x5_2) x6_3).f1)) ∧ w'.cell? ⟨(ad461.add ((x6_3).toNat * 8)).block, (ad461.add ((x6_3).toNat * 8)).off + 2, none⟩ = some (.int .i64 ((rd_T39 (rd_L4 l1_3 x5_2) x6_3).f2)) ∧ w'.cell? ⟨(ad461.add ((x6_3).toNat * 8)).block, (ad461.add ((x6_3).toNat * 8)).off + 3, none⟩ = some (.int .i64 ((rd_T39 (rd_L4 l1_3 x5_2) x6_3).f3)) ∧ w'.cell? ⟨(ad461.add ((x6_3).toNat * 8)).block, (ad461.add ((x6_3).toNat * 8)).off + 4, none⟩ = some (.slice A461_4 ((rd_T39 (rd_L4 l1_3 x5_2) x6_3).f4).length c461_4) ∧ w'.cell? ⟨(ad461.add ((x6_3).toNat * 8)).block, (ad461.add ((x6_3).toNat * 8)).off + 5, none⟩ = some (.slice A461_5 ((rd_T39 (rd_L4 l1_3 x5_2) x6_3).f5).length c461_5) ∧ w'.cell? ⟨(ad461.add ((x6_3).toNat * 8)).block, (ad461.add ((x6_3).toNat * 8)).off + 6, none⟩ = some (.string ((rd_T39 (rd_L4 l1_3 x5_2) x6_3).f6)) ∧ w'.cell? ⟨(ad461.add ((x6_3).toNat * 8)).block, (ad461.add ((x6_3).toNat * 8)).off + 7, none⟩ = some (.int .i64 ((rd_T39 (rd_L4 l1_3 x5_2) x6_3).f7))) (ds := []) #[false, false, false, false, false, false, false, false, false, false, false, false, false, false, false, false, false, false] (by kernel_rfl) rfl rfl ⟨(blk_cell BK452.out 0).trans rfl, (blk_cell BK452.out 1).trans rfl, (blk_cell BK452.out 2).trans rfl, (blk_cell BK452.out 3).trans rfl, (blk_cell BK452.out 4).trans rfl, (blk_cell BK453.out 0).trans rfl, (blk_cell BK453.out 1).trans rfl, (blk_cell BK453.out 2).trans rfl, (blk_cell BK453.out 3).trans rfl, (blk_cell BK453.out 4).trans rfl, ((HB.out.cell (World.block_lt_of_cell? w _ hw458_0)).trans hw458_0), ((HB.out.cell (World.block_lt_of_cell? w _ hw459_0)).trans hw459_0), ((HB.out.cell (World.block_lt_of_cell? w _ hw459_1)).trans hw459_1), ((HB.out.cell (World.block_lt_of_cell? w _ hw459_2)).trans hw459_2), ((HB.out.cell (World.block_lt_of_cell? w _ hw459_3)).trans hw459_3), ((HB.out.cell (World.block_lt_of_cell? w _ hw459_4)).trans hw459_4), ((HB.out.cell (World.block_lt_of_cell? w _ hw459_5)).trans hw459_5), ((HB.out.cell (World.block_lt_of_cell? w _ hw459_6)).trans hw459_6), ((HB.out.cell (World.block_lt_of_cell? w _ hw459_7)).trans hw459_7), ((HB.out.cell (World.block_lt_of_cell? w _ hw460_0)).trans hw460_0), ((HB.out.cell (World.block_lt_of_cell? w _ hw461_0)).trans hw461_0), ((HB.out.cell (World.block_lt_of_cell? w _ hw461_1)).trans hw461_1), ((HB.out.cell (World.block_lt_of_cell? w _ hw461_2)).trans hw461_2), ((HB.out.cell (World.block_lt_of_cell? w _ hw461_3)).trans hw461_3), ((HB.out.cell (World.block_lt_of_cell? w _ hw461_4)).trans hw461_4), ((HB.out.cell (World.block_lt_of_cell? w _ hw461_5)).trans hw461_5), ((HB.out.cell (World.block_lt_of_cell? w _ hw461_6)).trans hw461_6), ((HB.out.cell (World.block_lt_of_cell? w _ hw461_7)).trans hw461_7)⟩ (fun hHeld => ?_); refine with_tabW turntableref05_SameFunc.tab11 turntableref05_SameFunc.bits11 (fun HT_ HW_ => ?_)
                   generalize wr.drew = w44 at BK452 BK453 HB HR458_0 HR459_4 HR459_5 HR460_0 HR461_4 HR461_5 hx458_0 hx459_0 hx459_1 hx459_2 hx459_3 hx459_4 hx459_5 hx459_6 hx459_7 hx460_0 hx461_0 hx461_1 hx461_2 hx461_3 hx461_4 hx461_5 hx461_6 hx461_7 hHeld ⊢
                   refine pure_ (i := 0) (N := some 66) (v := ?_) (a' := ?_) #[true, false, false, false, false, false, false, false, false, false, false, false, false, false, false, false, false, false] rfl rfl (any_of HT_.out (by kernel_rfl)) (fun _ _ _ h => h) (Or.inl ⟨by rfl, ?_⟩) ?_ ?_
                   rotate_left
                   ·intro w'
                    go_simp
                    with_reducible rfl
                   rotate_left
                   ·simp only [Act.put, List.setIfInBounds_toArray, List.set_cons_zero, List.set_cons_succ, i64_w, i32_w]
                    rfl
                   refine pure_ (i := 2) (N := some 68) (v := ?_) (a' := ?_) #[true, false, true, false, false, false, false, false, false, false, false, false, false, false, false, false, false, false] rfl rfl (any_of HT_.out (by kernel_rfl)) (fun _ _ _ h => h) (Or.inl ⟨by rfl, ?_⟩) ?_ ?_
                   rotate_left
                   ·intro w'
                    go_simp
                    with_reducible rfl
                   rotate_left
                   ·simp only [Act.put, List.setIfInBounds_toArray, List.set_cons_zero, List.set_cons_succ, i64_w, i32_w]
                    rfl
                   refine pure_ (i := 5) (N := some 71) (v := ?_) (a' := ?_) #[true, false, true, false, false, true, false, false, false, false, false, false, false, false, false, false, false, false] rfl rfl (any_of HT_.out (by kernel_rfl)) (fun _ _ _ h => h) (Or.inl ⟨by rfl, ?_⟩) ?_ ?_
                   rotate_left
                   ·intro w'
                    go_simp
                    with_reducible rfl
                   rotate_left
                   ·simp only [Act.put, List.setIfInBounds_toArray, List.set_cons_zero, List.set_cons_succ, i64_w, i32_w]
                    rfl
                   refine pure_ (i := 8) (N := some 74) (v := ?_) (a' := ?_) #[true, false, true, false, false, true, false, false, true, false, false, false, false, false, false, false, false, false] rfl rfl (any_of HT_.out (by kernel_rfl)) (fun _ _ _ h => h) (Or.inl ⟨by rfl, ?_⟩) ?_ ?_
                   rotate_left
                   ·intro w'
                    go_simp
                    with_reducible rfl
                   rotate_left
                   ·simp only [Act.put, List.setIfInBounds_toArray, List.set_cons_zero, List.set_cons_succ, i64_w, i32_w]
                    rfl
                   refine pure_ (i := 10) (N := some 76) (v := ?_) (a' := ?_) #[true, false, true, false, false, true, false, false, true, false, true, false, false, false, false, false, false, false] rfl rfl (any_of HT_.out (by kernel_rfl)) (fun _ _ _ h => h) (Or.inl ⟨by rfl, ?_⟩) ?_ ?_
                   rotate_left
                   ·intro w'
                    go_simp
                    with_reducible rfl
                   rotate_left
                   ·simp only [Act.put, List.setIfInBounds_toArray, List.set_cons_zero, List.set_cons_succ, i64_w, i32_w]
                    rfl
                   refine pure_ (i := 13) (N := some 79) (v := ?_) (a' := ?_) #[true, false, true, false, false, true, false, false, true, false, true, false, false, true, false, false, false, false] rfl rfl (any_of HT_.out (by kernel_rfl)) (fun _ _ _ h => h) (Or.inl ⟨by rfl, ?_⟩) ?_ ?_
                   rotate_left
                   ·intro w'
                    go_simp
                    with_reducible rfl
                   rotate_left
                   ·simp only [Act.put, List.setIfInBounds_toArray, List.set_cons_zero, List.set_cons_succ, i64_w, i32_w]
                    rfl
                   refine take_ (i := 1) (N := some 67) (v := ?_) (a' := ?_) #[true, true, true, false, false, true, false, false, true, false, true, false, false, true, false, false, false, false] rfl rfl (take_ofW HT_.out HW_.out (by kernel_rfl)) (fun _ _ _ h => h) (Or.inl ⟨by rfl, ?_⟩) hHeld ?_ ?_
                   rotate_left
                   ·rintro w' ⟨s0, s1, s2, s3, s4, s5, s6, s7, s8, s9, s10, s11, s12, s13, s14, s15, s16, s17, s18, s19, s20, s21, s22, s23, s24, s25, s26, s27⟩
                    go_simp
                    with_reducible rfl
                   rotate_left
                   ·simp only [Act.put, List.setIfInBounds_toArray, List.set_cons_zero, List.set_cons_succ, i64_w, i32_w]
                    rfl
                   refine pure_ (i := 3) (N := some 69) (v := ?_) (a' := ?_) #[true, true, true, true, false, true, false, false, true, false, true, false, false, true, false, false, false, false] rfl rfl (any_of HT_.out (by kernel_rfl)) (fun _ _ _ h => h) (Or.inl ⟨by rfl, ?_⟩) ?_ ?_
                   rotate_left
                   ·intro w'
                    go_simp
                    with_reducible rfl
                   rotate_left
                   ·simp only [Act.put, List.setIfInBounds_toArray, List.set_cons_zero, List.set_cons_succ, i64_w, i32_w]
                    rfl
                   refine take_ (i := 4) (N := some 70) (v := ?_) (a' := ?_) #[true, true, true, true, true, true, false, false, true, false, true, false, false, true, false, false, false, false] rfl rfl (take_ofW HT_.out HW_.out (by kernel_rfl)) (fun _ _ _ h => h) (Or.inl ⟨by rfl, ?_⟩) hHeld ?_ ?_
                   rotate_left
                   ·rintro w' ⟨s0, s1, s2, s3, s4, s5, s6, s7, s8, s9, s10, s11, s12, s13, s14, s15, s16, s17, s18, s19, s20, s21, s22, s23, s24, s25, s26, s27⟩
                    go_simp
                    with_reducible rfl
                   rotate_left
                   ·simp only [Act.put, List.setIfInBounds_toArray, List.set_cons_zero, List.set_cons_succ, i64_w, i32_w]
                    rfl
                   refine pure_ (i := 6) (N := some 72) (v := ?_) (a' := ?_) #[true, true, true, true, true, true, true, false, true, false, true, false, false, true, false, false, false, false] rfl rfl (any_of HT_.out (by kernel_rfl)) (fun _ _ _ h => h) (Or.inl ⟨by rfl, ?_⟩) ?_ ?_
                   rotate_left
                   ·intro w'
                    go_simp
                    with_reducible rfl
                   rotate_left
                   ·simp only [Act.put, List.setIfInBounds_toArray, List.set_cons_zero, List.set_cons_succ, i64_w, i32_w]
                    rfl
                   refine take_ (i := 7) (N := some 73) (v := ?_) (a' := ?_) #[true, true, true, true, true, true, true, true, true, false, true, false, false, true, false, false, false, false] rfl rfl (take_ofW HT_.out HW_.out (by kernel_rfl)) (fun _ _ _ h => h) (Or.inl ⟨by rfl, ?_⟩) hHeld ?_ ?_
                   rotate_left
                   ·rintro w' ⟨s0, s1, s2, s3, s4, s5, s6, s7, s8, s9, s10, s11, s12, s13, s14, s15, s16, s17, s18, s19, s20, s21, s22, s23, s24, s25, s26, s27⟩
                    go_simp
                    with_reducible rfl
                   rotate_left
                   ·simp only [Act.put, List.setIfInBounds_toArray, List.set_cons_zero, List.set_cons_succ, i64_w, i32_w]
                    rfl
                   refine take_ (i := 9) (N := some 75) (v := ?_) (a' := ?_) #[true, true, true, true, true, true, true, true, true, true, true, false, false, true, false, false, false, false] rfl rfl (take_ofW HT_.out HW_.out (by kernel_rfl)) (fun _ _ _ h => h) (Or.inl ⟨by rfl, ?_⟩) hHeld ?_ ?_
                   rotate_left
                   ·rintro w' ⟨s0, s1, s2, s3, s4, s5, s6, s7, s8, s9, s10, s11, s12, s13, s14, s15, s16, s17, s18, s19, s20, s21, s22, s23, s24, s25, s26, s27⟩
                    go_simp
                    with_reducible rfl
                   rotate_left
                   ·simp only [Act.put, List.setIfInBounds_toArray, List.set_cons_zero, List.set_cons_succ, i64_w, i32_w]
                    rfl
                   refine pure_ (i := 11) (N := some 77) (v := ?_) (a' := ?_) #[true, true, true, true, true, true, true, true, true, true, true, true, false, true, false, false, false, false] rfl rfl (any_of HT_.out (by kernel_rfl)) (fun _ _ _ h => h) (Or.inl ⟨by rfl, ?_⟩) ?_ ?_
                   rotate_left
                   ·intro w'
                    go_simp
                    with_reducible rfl
                   rotate_left
                   ·simp only [Act.put, List.setIfInBounds_toArray, List.set_cons_zero, List.set_cons_succ, i64_w, i32_w]
                    rfl
                   refine take_ (i := 12) (N := some 78) (v := ?_) (a' := ?_) #[true, true, true, true, true, true, true, true, true, true, true, true, true, true, false, false, false, false] rfl rfl (take_ofW HT_.out HW_.out (by kernel_rfl)) (fun _ _ _ h => h) (Or.inl ⟨by rfl, ?_⟩) hHeld ?_ ?_
                   rotate_left
                   ·rintro w' ⟨s0, s1, s2, s3, s4, s5, s6, s7, s8, s9, s10, s11, s12, s13, s14, s15, s16, s17, s18, s19, s20, s21, s22, s23, s24, s25, s26, s27⟩
                    go_simp
                    with_reducible rfl
                   rotate_left
                   ·simp only [Act.put, List.setIfInBounds_toArray, List.set_cons_zero, List.set_cons_succ, i64_w, i32_w]
                    rfl
                   refine pure_ (i := 14) (N := some 80) (v := ?_) (a' := ?_) #[true, true, true, true, true, true, true, true, true, true, true, true, true, true, true, false, false, false] rfl rfl (any_of HT_.out (by kernel_rfl)) (fun _ _ _ h => h) (Or.inl ⟨by rfl, ?_⟩) ?_ ?_
                   rotate_left
                   ·intro w'
                    go_simp
                    with_reducible rfl
                   rotate_left
                   ·simp only [Act.put, List.setIfInBounds_toArray, List.set_cons_zero, List.set_cons_succ, i64_w, i32_w]
                    rfl
                   refine take_ (i := 15) (N := some 81) (v := ?_) (a' := ?_) #[true, true, true, true, true, true, true, true, true, true, true, true, true, true, true, true, false, false] rfl rfl (take_ofW HT_.out HW_.out (by kernel_rfl)) (fun _ _ _ h => h) (Or.inl ⟨by rfl, ?_⟩) hHeld ?_ ?_
                   rotate_left
                   ·rintro w' ⟨s0, s1, s2, s3, s4, s5, s6, s7, s8, s9, s10, s11, s12, s13, s14, s15, s16, s17, s18, s19, s20, s21, s22, s23, s24, s25, s26, s27⟩
                    go_simp
                    with_reducible rfl
                   rotate_left
                   ·simp only [Act.put, List.setIfInBounds_toArray, List.set_cons_zero, List.set_cons_succ, i64_w, i32_w]
                    rfl
                   refine one_ (i := 16) (N := some 82) #[true, true, true, true, true, true, true, true, true, true, true, true, true, true, true, true, true, false] rfl rfl (one_of HT_.out (by kernel_rfl)) (by decide) (fun K hK => ?_)
                   refine goes_ Try.func90 (by kernel_rfl) rfl #[.agg #[.int .i64 ((rd_T39 (rd_L4 l0_3 x5_2) x6_3).f0), .int .i64 ((rd_T39 (rd_L4 l0_3 x5_2) x6_3).f1), .int .i64 ((rd_T39 (rd_L4 l0_3 x5_2) x6_3).f2), .int .i64 ((rd_T39 (rd_L4 l0_3 x5_2) x6_3).f3), .slice A459_4 ((rd_T39 (rd_L4 l0_3 x5_2) x6_3).f4).length c459_4, .slice A459_5 ((rd_T39 (rd_L4 l0_3 x5_2) x6_3).f5).length c459_5, .string ((rd_T39 (rd_L4 l0_3 x5_2) x6_3).f6), .int .i64 ((rd_T39 (rd_L4 l0_3 x5_2) x6_3).f7)], .agg #[.int .i64 ((rd_T39 (rd_L4 l1_3 x5_2) x6_3).f0), .int .i64 ((rd_T39 (rd_L4 l1_3 x5_2) x6_3).f1), .int .i64 ((rd_T39 (rd_L4 l1_3 x5_2) x6_3).f2), .int .i64 ((rd_T39 (rd_L4 l1_3 x5_2) x6_3).f3), .slice A461_4 ((rd_T39 (rd_L4 l1_3 x5_2) x6_3).f4).length c461_4, .slice A461_5 ((rd_T39 (rd_L4 l1_3 x5_2) x6_3).f5).length c461_5, .string ((rd_T39 (rd_L4 l1_3 x5_2) x6_3).f6), .int .i64 ((rd_T39 (rd_L4 l1_3 x5_2) x6_3).f7)]] (by rfl) rfl rfl zA ?_
                   with_reducible refine (turntableref05_Same.calls k3 ((rd_T39 (rd_L4 l0_3 x5_2) x6_3).f0) ((rd_T39 (rd_L4 l0_3 x5_2) x6_3).f1) ((rd_T39 (rd_L4 l0_3 x5_2) x6_3).f2) ((rd_T39 (rd_L4 l0_3 x5_2) x6_3).f3) _ _ ((rd_T39 (rd_L4 l0_3 x5_2) x6_3).f4) _ _ ((rd_T39 (rd_L4 l0_3 x5_2) x6_3).f5) ((rd_T39 (rd_L4 l0_3 x5_2) x6_3).f6) ((rd_T39 (rd_L4 l0_3 x5_2) x6_3).f7) ((rd_T39 (rd_L4 l1_3 x5_2) x6_3).f0) ((rd_T39 (rd_L4 l1_3 x5_2) x6_3).f1) ((rd_T39 (rd_L4 l1_3 x5_2) x6_3).f2) ((rd_T39 (rd_L4 l1_3 x5_2) x6_3).f3) _ _ ((rd_T39 (rd_L4 l1_3 x5_2) x6_3).f4) _ _ ((rd_T39 (rd_L4 l1_3 x5_2) x6_3).f5) ((rd_T39 (rd_L4 l1_3 x5_2) x6_3).f6) ((rd_T39 (rd_L4 l1_3 x5_2) x6_3).f7) false _ ?side1 ?side2 ?side3 ?side4 ?side5 ?side6 ?side7 ?side8 A36.out).mono ?_
                   (case side1 => repeat (first | exact (Kd.C_below HR459_4.out HB.out) | (with_reducible refine Kd.C_alloc ?_ _) | (with_reducible refine Kd.C_drewN ?_ _) | (with_reducible refine Kd.C_drew ?_)))
                   (case side2 => exact HC459_4.out)
                   (case side3 => repeat (first | exact (Kd.C_below HR459_5.out HB.out) | (with_reducible refine Kd.C_alloc ?_ _) | (with_reducible refine Kd.C_drewN ?_ _) | (with_reducible refine Kd.C_drew ?_)))
                   (case side4 => exact HC459_5.out)
                   (case side5 => repeat (first | exact (Kd.C_below HR461_4.out HB.out) | (with_reducible refine Kd.C_alloc ?_ _) | (with_reducible refine Kd.C_drewN ?_ _) | (with_reducible refine Kd.C_drew ?_)))
                   (case side6 => exact HC461_4.out)
                   (case side7 => repeat (first | exact (Kd.C_below HR461_5.out HB.out) | (with_reducible refine Kd.C_alloc ?_ _) | (with_reducible refine Kd.C_drewN ?_ _) | (with_reducible refine Kd.C_drew ?_)))
                   (case side8 => exact HC461_5.out)
                   rintro e w45 ⟨rfl, hb⟩
                   refine ⟨_, rfl, ?_⟩
                   have n0_ := Aside0.mk (blk_below (g := gb452) (o := .cells #[.string a0_0, .slice A0_1 l0_1.length c0_1, .int .i64 a0_2, .slice (some ad455) l0_3.length c0_3, .int .i64 a0_4] 34 (0, 0)) (zK BK452.out) hb)
                   have n1_ := Aside0.mk (blk_below (g := gb453) (o := .cells #[.string a1_0, .slice A1_1 l1_1.length c1_1, .int .i64 a1_2, .slice (some ad456) l1_3.length c1_3, .int .i64 a1_4] 34 (0, 0)) (zK BK453.out) hb)
                   have n2_ := Aside0.mk (below_step (zD HB.out GE452.out GE453.out) hb)
                   clear BK452
                   clear BK453
                   clear HB
                   have BK452 := n0_
                   have BK453 := n1_
                   have HB := n2_
                   clear n0_ n1_ n2_
                   (try clear hb)
                   (try clear hb2)
                   (try clear hk)
                   (try clear hi)
                   refine hK.out _ _ ⟨(blk_cell BK452.out 0).trans rfl, (blk_cell BK452.out 1).trans rfl, (blk_cell BK452.out 2).trans rfl, (blk_cell BK452.out 3).trans rfl, (blk_cell BK452.out 4).trans rfl, (blk_cell BK453.out 0).trans rfl, (blk_cell BK453.out 1).trans rfl, (blk_cell BK453.out 2).trans rfl, (blk_cell BK453.out 3).trans rfl, (blk_cell BK453.out 4).trans rfl, ((HB.out.cell (World.block_lt_of_cell? w _ hw458_0)).trans hw458_0), ((HB.out.cell (World.block_lt_of_cell? w _ hw459_0)).trans hw459_0), ((HB.out.cell (World.block_lt_of_cell? w _ hw459_1)).trans hw459_1), ((HB.out.cell (World.block_lt_of_cell? w _ hw459_2)).trans hw459_2), ((HB.out.cell (World.block_lt_of_cell? w _ hw459_3)).trans hw459_3), ((HB.out.cell (World.block_lt_of_cell? w _ hw459_4)).trans hw459_4), ((HB.out.cell (World.block_lt_of_cell? w _ hw459_5)).trans hw459_5), ((HB.out.cell (World.block_lt_of_cell? w _ hw459_6)).trans hw459_6), ((HB.out.cell (World.block_lt_of_cell? w _ hw459_7)).trans hw459_7), ((HB.out.cell (World.block_lt_of_cell? w _ hw460_0)).trans hw460_0), ((HB.out.cell (World.block_lt_of_cell? w _ hw461_0)).trans hw461_0), ((HB.out.cell (World.block_lt_of_cell? w _ hw461_1)).trans hw461_1), ((HB.out.cell (World.block_lt_of_cell? w _ hw461_2)).trans hw461_2), ((HB.out.cell (World.block_lt_of_cell? w _ hw461_3)).trans hw461_3), ((HB.out.cell (World.block_lt_of_cell? w _ hw461_4)).trans hw461_4), ((HB.out.cell (World.block_lt_of_cell? w _ hw461_5)).trans hw461_5), ((HB.out.cell (World.block_lt_of_cell? w _ hw461_6)).trans hw461_6), ((HB.out.cell (World.block_lt_of_cell? w _ hw461_7)).trans hw461_7)⟩ (fun hHeld => ?_)
                   clear hK K
                   refine norm_ (a' := ?_) ?_ ?_
                   rotate_left
                   ·show Act.put _ (some 82) _ = _
                    simp only [Act.put, List.setIfInBounds_toArray, List.set_cons_zero, List.set_cons_succ, i64_w, i32_w]
                    rfl
                   refine pure_ (i := 17) (N := some 83) (v := ?_) (a' := ?_) #[true, true, true, true, true, true, true, true, true, true, true, true, true, true, true, true, true, true] rfl rfl (any_of HT_.out (by kernel_rfl)) (fun _ _ _ h => h) (Or.inl ⟨by rfl, ?_⟩) ?_ ?_
                   rotate_left
                   ·intro w'
                    go_simp
                    with_reducible rfl
                   rotate_left
                   ·simp only [Act.put, List.setIfInBounds_toArray, List.set_cons_zero, List.set_cons_succ, i64_w, i32_w]
                    rfl
                   refine done_ (done_of HT_.out (by kernel_rfl)) ?_
                   try go_wp2
                   go_ret
                   exact ⟨zF, zD HB.out GE452.out GE453.out⟩
                 ·rw [if_neg c35] at H
                  exact absurd H (by simp)
                ·rw [if_neg c34] at H
                 exact absurd H (by simp)
               ·rw [if_neg c33] at H
                exact absurd H (by simp)
              ·rw [if_neg c32] at H
               have c32b0 : decide (x6_3 < ((rd_L4 l0_3 x5_2).length : Int)) = false := decide_eq_false c32
               clear c32
               have H' := Aside0.mk H
               clear H
               have hnb46 := NB452_453.out
               have hnc46 := NB453_452.out
               have hcz47_0 : wr.cell? ⟨gb452, 0, none⟩ = some (.string a0_0) := (blk_cell BK452.out 0).trans rfl
               have hcz47_1 : wr.cell? ⟨gb452, 1, none⟩ = some (.slice A0_1 l0_1.length c0_1) := (blk_cell BK452.out 1).trans rfl
               have hcz47_2 : wr.cell? ⟨gb452, 2, none⟩ = some (.int .i64 a0_2) := (blk_cell BK452.out 2).trans rfl
               have hcz47_3 : wr.cell? ⟨gb452, 3, none⟩ = some (.slice (some ad455) l0_3.length c0_3) := (blk_cell BK452.out 3).trans rfl
               have hcz47_4 : wr.cell? ⟨gb452, 4, none⟩ = some (.int .i64 a0_4) := (blk_cell BK452.out 4).trans rfl
               have hfz47_0 := blk_frozen BK452.out 0
               have hfz47_1 := blk_frozen BK452.out 1
               have hfz47_2 := blk_frozen BK452.out 2
               have hfz47_3 := blk_frozen BK452.out 3
               have hfz47_4 := blk_frozen BK452.out 4
               have p457 : 0 ≤ (x5_2 : Int) := of_decide_eq_true zS
               have q457 : x5_2 < (l0_3.length : Int) := of_decide_eq_true zS
               obtain ⟨ad457, A457_0, c457_0, e457, hx457_0, hl457_0, hi457_0⟩ := at_L4 HR0_3.out x5_2 p457 q457
               obtain rfl : ad455 = ad457 := (by injection e457)
               replace hx457_0 := (HB.out.cell (World.block_lt_of_cell? w _ hx457_0)).trans hx457_0
               have HR457_0 := Aside0.mk hi457_0
               have HC457_0 := Aside0.mk hl457_0
               clear hi457_0 hl457_0
               replace p457 := eq_true p457
               replace q457 := eq_true q457
               go_wp2
               go_roundg k3
               case measure => have := HJ2.out; have := HK2.out; have := HK3.out; omega
               case rel => exact ⟨(wrap64 (x5_2 + 1)), (by first | rfl | (simp; done) | (simp [*]; done)), H', ⟨by have := HJ2.out; have := HK2.out; have := HK3.out; omega⟩, ⟨zK BK452.out⟩, ⟨zK BK453.out⟩, ⟨zD HB.out GE452.out GE453.out⟩⟩
             ·rw [if_neg c31] at H
              exact absurd H (by simp)
            ·rw [if_neg c30] at H
             exact absurd H (by simp)
         ·rw [if_neg c26] at H
          have c26b0 : (((rd_L4 l0_3 x5_2).length : Int) == ((rd_L4 l1_3 x5_2).length : Int)) = false := beq_eq_false_iff_ne.mpr c26
          have c26b1 : (((rd_L4 l0_3 x5_2).length : Int) != ((rd_L4 l1_3 x5_2).length : Int)) = true := bne_iff_ne.mpr c26
          have c26b2 : ((rd_L4 l0_3 x5_2).length == (rd_L4 l1_3 x5_2).length) = false := by first | simpa using c26 | (simp at c26 ⊢; omega)
          obtain rfl := Option.some.inj H
          have hnb48 := NB452_453.out
          have hnc48 := NB453_452.out
          have hcz49_0 : wr.cell? ⟨gb452, 0, none⟩ = some (.string a0_0) := (blk_cell BK452.out 0).trans rfl
          have hcz49_1 : wr.cell? ⟨gb452, 1, none⟩ = some (.slice A0_1 l0_1.length c0_1) := (blk_cell BK452.out 1).trans rfl
          have hcz49_2 : wr.cell? ⟨gb452, 2, none⟩ = some (.int .i64 a0_2) := (blk_cell BK452.out 2).trans rfl
          have hcz49_3 : wr.cell? ⟨gb452, 3, none⟩ = some (.slice A0_3 l0_3.length c0_3) := (blk_cell BK452.out 3).trans rfl
          have hcz49_4 : wr.cell? ⟨gb452, 4, none⟩ = some (.int .i64 a0_4) := (blk_cell BK452.out 4).trans rfl
          have hfz49_0 := blk_frozen BK452.out 0
          have hfz49_1 := blk_frozen BK452.out 1
          have hfz49_2 := blk_frozen BK452.out 2
          have hfz49_3 := blk_frozen BK452.out 3
          have hfz49_4 := blk_frozen BK452.out 4
          try go_wp2
          have n0_ := Aside0.mk (blk_drew BK452.out)
          have n1_ := Aside0.mk (blk_drew BK453.out)
          have n2_ := Aside0.mk (below_drew1 HB.out)
          clear BK452
          clear BK453
          clear HB
          have BK452 := n0_
          have BK453 := n1_
          have HB := n2_
          clear n0_ n1_ n2_
          have p455 : 0 ≤ (x5_2 : Int) := of_decide_eq_true zS
          have q455 : x5_2 < (l0_3.length : Int) := of_decide_eq_true zS
          obtain ⟨ad455, A455_0, c455_0, e455, hx455_0, hl455_0, hi455_0⟩ := at_L4 HR0_3.out x5_2 p455 q455
          have hw455_0 := hx455_0
          cases e455
          replace hx455_0 := (HB.out.cell (World.block_lt_of_cell? w _ hx455_0)).trans hx455_0
          have HR455_0 := Aside0.mk hi455_0
          have HC455_0 := Aside0.mk hl455_0
          clear hi455_0 hl455_0
          replace p455 := eq_true p455
          replace q455 := eq_true q455
          have p456 : 0 ≤ (x5_2 : Int) := of_decide_eq_true zS
          have q456 : x5_2 < (l1_3.length : Int) := of_decide_eq_true zS
          obtain ⟨ad456, A456_0, c456_0, e456, hx456_0, hl456_0, hi456_0⟩ := at_L4 HR1_3.out x5_2 p456 q456
          have hw456_0 := hx456_0
          cases e456
          replace hx456_0 := (HB.out.cell (World.block_lt_of_cell? w _ hx456_0)).trans hx456_0
          have HR456_0 := Aside0.mk hi456_0
          have HC456_0 := Aside0.mk hl456_0
          clear hi456_0 hl456_0
          replace p456 := eq_true p456
          replace q456 := eq_true q456
          refine start_ (n := 13) (S := fun w' => w'.cell? ⟨gb452, 0, none⟩ = some (.string a0_0) ∧ w'.cell? ⟨gb452, 1, none⟩ = some (.slice A0_1 l0_1.length c0_1) ∧ w'.cell? ⟨gb452, 2, none⟩ = some (.int .i64 a0_2) ∧ w'.cell? ⟨gb452, 3, none⟩ = some (.slice (some ad455) l0_3.length c0_3) ∧ w'.cell? ⟨gb452, 4, none⟩ = some (.int .i64 a0_4) ∧ w'.cell? ⟨gb453, 0, none⟩ = some (.string a1_0) ∧ w'.cell? ⟨gb453, 1, none⟩ = some (.slice A1_1 l1_1.length c1_1) ∧ w'.cell? ⟨gb453, 2, none⟩ = some (.int .i64 a1_2) ∧ w'.cell? ⟨gb453, 3, none⟩ = some (.slice (some ad456) l1_3.length c1_3) ∧ w'.cell? ⟨gb453, 4, none⟩ = some (.int .i64 a1_4) ∧ w'.cell? (ad455.add (x5_2).toNat) = some (.slice A455_0 (rd_L4 l0_3 x5_2).length c455_0) ∧ w'.cell? (ad456.add (x5_2).toNat) = some (.slice A456_0 (rd_L4 l1_3 x5_2).length c456_0)) (ds := []) #[false, false, false, false, false, false, false, false, false, false, false, false, false] (by kernel_rfl) rfl rfl ⟨(blk_cell BK452.out 0).trans rfl, (blk_cell BK452.out 1).trans rfl, (blk_cell BK452.out 2).trans rfl, (blk_cell BK452.out 3).trans rfl, (blk_cell BK452.out 4).trans rfl, (blk_cell BK453.out 0).trans rfl, (blk_cell BK453.out 1).trans rfl, (blk_cell BK453.out 2).trans rfl, (blk_cell BK453.out 3).trans rfl, (blk_cell BK453.out 4).trans rfl, ((HB.out.cell (World.block_lt_of_cell? w _ hw455_0)).trans hw455_0), ((HB.out.cell (World.block_lt_of_cell? w _ hw456_0)).trans hw456_0)⟩ (fun hHeld => ?_); refine with_tabW turntableref05_SameFunc.tab6 turntableref05_SameFunc.bits6 (fun HT_ HW_ => ?_)
          generalize wr.drew = w50 at BK452 BK453 HB HR455_0 HR456_0 hx455_0 hx456_0 hHeld ⊢
          refine pure_ (i := 0) (N := some 43) (v := ?_) (a' := ?_) #[true, false, false, false, false, false, false, false, false, false, false, false, false] rfl rfl (any_of HT_.out (by kernel_rfl)) (fun _ _ _ h => h) (Or.inl ⟨by rfl, ?_⟩) ?_ ?_
          rotate_left
          ·intro w'
           go_simp
           with_reducible rfl
          rotate_left
          ·simp only [Act.put, List.setIfInBounds_toArray, List.set_cons_zero, List.set_cons_succ, i64_w, i32_w]
           rfl
          refine pure_ (i := 2) (N := some 45) (v := ?_) (a' := ?_) #[true, false, true, false, false, false, false, false, false, false, false, false, false] rfl rfl (any_of HT_.out (by kernel_rfl)) (fun _ _ _ h => h) (Or.inl ⟨by rfl, ?_⟩) ?_ ?_
          rotate_left
          ·intro w'
           go_simp
           with_reducible rfl
          rotate_left
          ·simp only [Act.put, List.setIfInBounds_toArray, List.set_cons_zero, List.set_cons_succ, i64_w, i32_w]
           rfl
          refine pure_ (i := 6) (N := some 49) (v := ?_) (a' := ?_) #[true, false, true, false, false, false, true, false, false, false, false, false, false] rfl rfl (any_of HT_.out (by kernel_rfl)) (fun _ _ _ h => h) (Or.inl ⟨by rfl, ?_⟩) ?_ ?_
          rotate_left
          ·intro w'
           go_simp
           with_reducible rfl
          rotate_left
          ·simp only [Act.put, List.setIfInBounds_toArray, List.set_cons_zero, List.set_cons_succ, i64_w, i32_w]
           rfl
          refine pure_ (i := 8) (N := some 51) (v := ?_) (a' := ?_) #[true, false, true, false, false, false, true, false, true, false, false, false, false] rfl rfl (any_of HT_.out (by kernel_rfl)) (fun _ _ _ h => h) (Or.inl ⟨by rfl, ?_⟩) ?_ ?_
          rotate_left
          ·intro w'
           go_simp
           with_reducible rfl
          rotate_left
          ·simp only [Act.put, List.setIfInBounds_toArray, List.set_cons_zero, List.set_cons_succ, i64_w, i32_w]
           rfl
          refine take_ (i := 1) (N := some 44) (v := ?_) (a' := ?_) #[true, true, true, false, false, false, true, false, true, false, false, false, false] rfl rfl (take_ofW HT_.out HW_.out (by kernel_rfl)) (fun _ _ _ h => h) (Or.inl ⟨by rfl, ?_⟩) hHeld ?_ ?_
          rotate_left
          ·rintro w' ⟨s0, s1, s2, s3, s4, s5, s6, s7, s8, s9, s10, s11⟩
           go_simp
           with_reducible rfl
          rotate_left
          ·simp only [Act.put, List.setIfInBounds_toArray, List.set_cons_zero, List.set_cons_succ, i64_w, i32_w]
           rfl
          refine pure_ (i := 3) (N := some 46) (v := ?_) (a' := ?_) #[true, true, true, true, false, false, true, false, true, false, false, false, false] rfl rfl (any_of HT_.out (by kernel_rfl)) (fun _ _ _ h => h) (Or.inl ⟨by rfl, ?_⟩) ?_ ?_
          rotate_left
          ·intro w'
           go_simp
           with_reducible rfl
          rotate_left
          ·simp only [Act.put, List.setIfInBounds_toArray, List.set_cons_zero, List.set_cons_succ, i64_w, i32_w]
           rfl
          refine take_ (i := 4) (N := some 47) (v := ?_) (a' := ?_) #[true, true, true, true, true, false, true, false, true, false, false, false, false] rfl rfl (take_ofW HT_.out HW_.out (by kernel_rfl)) (fun _ _ _ h => h) (Or.inl ⟨by rfl, ?_⟩) hHeld ?_ ?_
          rotate_left
          ·rintro w' ⟨s0, s1, s2, s3, s4, s5, s6, s7, s8, s9, s10, s11⟩
           go_simp
           with_reducible rfl
          rotate_left
          ·simp only [Act.put, List.setIfInBounds_toArray, List.set_cons_zero, List.set_cons_succ, i64_w, i32_w]
           rfl
          refine pure_ (i := 5) (N := some 48) (v := ?_) (a' := ?_) #[true, true, true, true, true, true, true, false, true, false, false, false, false] rfl rfl (any_of HT_.out (by kernel_rfl)) (fun _ _ _ h => h) (Or.inl ⟨by rfl, ?_⟩) ?_ ?_
          rotate_left
          ·intro w'
           go_simp
           with_reducible rfl
          rotate_left
          ·simp only [Act.put, List.setIfInBounds_toArray, List.set_cons_zero, List.set_cons_succ, i64_w, i32_w]
           rfl
          refine take_ (i := 7) (N := some 50) (v := ?_) (a' := ?_) #[true, true, true, true, true, true, true, true, true, false, false, false, false] rfl rfl (take_ofW HT_.out HW_.out (by kernel_rfl)) (fun _ _ _ h => h) (Or.inl ⟨by rfl, ?_⟩) hHeld ?_ ?_
          rotate_left
          ·rintro w' ⟨s0, s1, s2, s3, s4, s5, s6, s7, s8, s9, s10, s11⟩
           go_simp
           with_reducible rfl
          rotate_left
          ·simp only [Act.put, List.setIfInBounds_toArray, List.set_cons_zero, List.set_cons_succ, i64_w, i32_w]
           rfl
          refine pure_ (i := 9) (N := some 52) (v := ?_) (a' := ?_) #[true, true, true, true, true, true, true, true, true, true, false, false, false] rfl rfl (any_of HT_.out (by kernel_rfl)) (fun _ _ _ h => h) (Or.inl ⟨by rfl, ?_⟩) ?_ ?_
          rotate_left
          ·intro w'
           go_simp
           with_reducible rfl
          rotate_left
          ·simp only [Act.put, List.setIfInBounds_toArray, List.set_cons_zero, List.set_cons_succ, i64_w, i32_w]
           rfl
          refine take_ (i := 10) (N := some 53) (v := ?_) (a' := ?_) #[true, true, true, true, true, true, true, true, true, true, true, false, false] rfl rfl (take_ofW HT_.out HW_.out (by kernel_rfl)) (fun _ _ _ h => h) (Or.inl ⟨by rfl, ?_⟩) hHeld ?_ ?_
          rotate_left
          ·rintro w' ⟨s0, s1, s2, s3, s4, s5, s6, s7, s8, s9, s10, s11⟩
           go_simp
           with_reducible rfl
          rotate_left
          ·simp only [Act.put, List.setIfInBounds_toArray, List.set_cons_zero, List.set_cons_succ, i64_w, i32_w]
           rfl
          refine pure_ (i := 11) (N := some 54) (v := ?_) (a' := ?_) #[true, true, true, true, true, true, true, true, true, true, true, true, false] rfl rfl (any_of HT_.out (by kernel_rfl)) (fun _ _ _ h => h) (Or.inl ⟨by rfl, ?_⟩) ?_ ?_
          rotate_left
          ·intro w'
           go_simp
           with_reducible rfl
          rotate_left
          ·simp only [Act.put, List.setIfInBounds_toArray, List.set_cons_zero, List.set_cons_succ, i64_w, i32_w]
           rfl
          refine pure_ (i := 12) (N := some 55) (v := ?_) (a' := ?_) #[true, true, true, true, true, true, true, true, true, true, true, true, true] rfl rfl (any_of HT_.out (by kernel_rfl)) (fun _ _ _ h => h) (Or.inl ⟨by rfl, ?_⟩) ?_ ?_
          rotate_left
          ·intro w'
           go_simp
           with_reducible rfl
          rotate_left
          ·simp only [Act.put, List.setIfInBounds_toArray, List.set_cons_zero, List.set_cons_succ, i64_w, i32_w]
           rfl
          refine done_ (done_of HT_.out (by kernel_rfl)) ?_
          try go_wp2
          go_ret
          exact ⟨zF, zD HB.out GE452.out GE453.out⟩
        ·rw [if_neg c25] at H
         exact absurd H (by simp)
       ·rw [if_neg c24] at H
        exact absurd H (by simp)
      ·rw [if_neg c23] at H
       have c23b0 : decide (x5_2 < (l0_3.length : Int)) = false := decide_eq_false c23
       clear c23
       obtain rfl := Option.some.inj H
       have hnb51 := NB452_453.out
       have hnc51 := NB453_452.out
       have hcz52_0 : wr.cell? ⟨gb452, 0, none⟩ = some (.string a0_0) := (blk_cell BK452.out 0).trans rfl
       have hcz52_1 : wr.cell? ⟨gb452, 1, none⟩ = some (.slice A0_1 l0_1.length c0_1) := (blk_cell BK452.out 1).trans rfl
       have hcz52_2 : wr.cell? ⟨gb452, 2, none⟩ = some (.int .i64 a0_2) := (blk_cell BK452.out 2).trans rfl
       have hcz52_3 : wr.cell? ⟨gb452, 3, none⟩ = some (.slice A0_3 l0_3.length c0_3) := (blk_cell BK452.out 3).trans rfl
       have hcz52_4 : wr.cell? ⟨gb452, 4, none⟩ = some (.int .i64 a0_4) := (blk_cell BK452.out 4).trans rfl
       have hfz52_0 := blk_frozen BK452.out 0
       have hfz52_1 := blk_frozen BK452.out 1
       have hfz52_2 := blk_frozen BK452.out 2
       have hfz52_3 := blk_frozen BK452.out 3
       have hfz52_4 := blk_frozen BK452.out 4
       go_wp2
       go_ret
       exact ⟨zF, zD HB.out GE452.out GE453.out⟩
end Go.Proofs.Ytkjdblbgmomieaa.PSh
end
