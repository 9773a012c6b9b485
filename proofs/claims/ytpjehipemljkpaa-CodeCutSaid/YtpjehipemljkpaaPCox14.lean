-- PRINTED by a turned copy of the kit's print (patch_print.py); not typed by hand. Lean checks it.
import Derived.Test.YtpjehipemljkpaaPCox0
import Derived.Test.YtpjehipemljkpaaPCox1
import Derived.Test.YtpjehipemljkpaaPCox2
import Derived.Test.YtpjehipemljkpaaPCox4
import Derived.Test.YtpjehipemljkpaaPCox11
import Derived.Test.YtpjehipemljkpaaPCox13
import Derived.Test.YtpjehipemljkpaaZip
namespace Go.Proofs.Ytpjehipemljkpaa.PCo
open Go.RowKit Go.Proofs.YtpjehipemljkpaaW.PrintWords Go.Proofs.YtpjehipemljkpaaW.PrintLast Go.Proofs.YtpjehipemljkpaaW.PrintMore Go.Proofs.Ytpjehipemljkpaa.Zip
attribute [local go_sem] max2_int min2_int max_two min_two max_three min_three max_four min_four   -- for this text's walks alone
set_option linter.unusedVariables false
set_option linter.unusedSimpArgs false

attribute [local go_sem high] eqA27
/-! ### turntableref33_Check: function 14 -/
def turntableref33_Check.l0 : Nat → List (S47) → Int → Option (Int × Int)
 | 0, _, _ => none
 | k + 1, x0, x3 => if x3 < (x0.length : Int) then (if 0 ≤ x3 then ((turntableref33_one.f k ((rd_T47 x0 x3).f0) ((rd_T47 x0 x3).f1) ((rd_T47 x0 x3).f2) (x0.length : Int)).bind fun t388 => (if t388 = 0 then (turntableref33_Check.l0 k x0 (wrap64 (x3 + 1))) else (some (t388, x3)))) else (none)) else (some (0, 0))
def turntableref33_Check.f (k : Nat) (l0 : List (S47)) : Option (Int × Int) := if (l0.length : Int) > 32 then (some (6, (l0.length : Int))) else (turntableref33_Check.l0 k l0 0)
theorem turntableref33_Check.mono_l : ∀ k, (∀ y0 y1, LeO (turntableref33_Check.l0 k y0 y1) (turntableref33_Check.l0 (k + 1) y0 y1))
 | 0 => fun _ _ r h => by simp [turntableref33_Check.l0] at h
 | k + 1 => by
  have ih0 := turntableref33_Check.mono_l k
  ·intro y0 y1
   unfold turntableref33_Check.l0
   repeat' first
   | (with_reducible exact ih0 _ _)
   | (with_reducible exact turntableref33_one.mono _ _ _ _ _)
   | (with_reducible exact LeO.refl _)
   | (with_reducible exact LeO.none _)
   | (with_reducible refine LeO.ite ?_ ?_)
   | (with_reducible refine LeO.bind ?_ (fun _ => ?_))
   | exact ih0 _ _
   | exact turntableref33_one.mono _ _ _ _ _
   | exact LeO.none _
   | refine LeO.ite ?_ ?_
   | refine LeO.bind ?_ (fun _ => ?_)
theorem turntableref33_Check.mono : ∀ a0 k, LeO (turntableref33_Check.f k a0) (turntableref33_Check.f (k + 1) a0) := by
 intro a0 k
 have ih0 := turntableref33_Check.mono_l k
 unfold turntableref33_Check.f
 repeat' first
   | (with_reducible exact ih0 _ _)
   | (with_reducible exact turntableref33_one.mono _ _ _ _ _)
   | (with_reducible exact LeO.refl _)
   | (with_reducible exact LeO.none _)
   | (with_reducible refine LeO.ite ?_ ?_)
   | (with_reducible refine LeO.bind ?_ (fun _ => ?_))
   | exact ih0 _ _
   | exact turntableref33_one.mono _ _ _ _ _
   | exact LeO.none _
   | refine LeO.ite ?_ ?_
   | refine LeO.bind ?_ (fun _ => ?_)
set_option maxHeartbeats 8000000 in
set_option maxRecDepth 100000 in
theorem turntableref33_Check.calls (k : Nat) (A0 : Option Addr) (c0 : Nat) (l0 : List (S47)) (r1 : Int) (r2 : Int) (w : World) (hr0 : Kd.C k47 w A0 l0.length l0) (hc0 : l0.length ≤ c0) (h : turntableref33_Check.f k l0 = some (r1, r2)) :
  Calls Try.prog 14 #[.slice A0 l0.length c0] w fun e w' => e = .returned (.agg #[.int .i64 r1, .int .i64 r2]) ∧ Below w.heap.size w w' := by
 have hu27 := Try.underlying27
 have hu47 := Try.underlying47
 have HR0 := Aside0.mk hr0
 have HC0 := Aside0.mk hc0
 clear hr0 hc0
 have HB := Aside0.mk (Below.refl w.heap.size w)
 have H : (if (l0.length : Int) > 32 then (some (6, (l0.length : Int))) else (turntableref33_Check.l0 k l0 0)) = some (r1, r2) := h
 clear h
 by_cases c2 : (l0.length : Int) > 32
 ·rw [if_pos c2] at H
  have c2b0 : decide (32 < (l0.length : Int)) = true := decide_eq_true c2
  have c2b1 : decide (32 < l0.length) = true := decide_eq_true (by omega)
  clear c2
  simp only [Option.some.injEq, Prod.mk.injEq] at H
  obtain ⟨rfl, rfl⟩ := H
  go_enter Try.func14, Try.ntmps14
  go_wp2_with (first | ((with_reducible refine gate_dst (N := 2) rfl ?_); refine box_event ?hg (N := 2) ?hd (cs := #[.int .i64 0, .int .i64 0]) (t := 27) ?hr ?_; (case hd => rfl); (case hg => rfl); (case hr => first | (go_simp; done) | (go_simp; rfl)); intro gb386 hg w3 hbox hb; have n0_ := Aside0.mk (below_step (zB HB.out) hb); have n1_ := Aside0.mk (hbox); have n2_ := Aside0.mk ((by rw [hg]; exact (below_size (zB HB.out)) : w.heap.size ≤ gb386)); have n3_ := Aside0.mk ((by rw [hg]; exact (below_size (zB HB.out)) : w.heap.size ≤ gb386)); clear HB; have HB := n0_; have BK386 := n1_; have GW386 := n2_; have GE386 := n3_; clear n0_ n1_ n2_ n3_; clear hb hbox hg; have hcz4_0 : w3.cell? ⟨gb386, 0, none⟩ = some (.int .i64 0) := (blk_cell BK386.out 0).trans rfl; have hcz4_1 : w3.cell? ⟨gb386, 1, none⟩ = some (.int .i64 0) := (blk_cell BK386.out 1).trans rfl; have hfz4_0 := blk_frozen BK386.out 0; have hfz4_1 := blk_frozen BK386.out 1))
  refine bodyPost_ret (results_cell_row rfl _ _ gb386 27 #[.int .i64 6, .int .i64 (l0.length : Int)] (0, 0) _ rfl (by (with_reducible repeat (first | refine blk_drewN ?_ _ | refine blk_drew ?_ | refine blk_alloc ?_ _)); refine blk_put (cs := #[.int .i64 6, .int .i64 0]) ?_ 1 _ rfl; (with_reducible repeat (first | refine blk_drewN ?_ _ | refine blk_drew ?_ | refine blk_alloc ?_ _)); refine blk_put (cs := #[.int .i64 0, .int .i64 0]) ?_ 0 _ rfl; (with_reducible repeat (first | refine blk_drewN ?_ _ | refine blk_drew ?_ | refine blk_alloc ?_ _)); exact BK386.out) Try.underlying27 rfl (by kernel_rfl)) rfl ?_
  exact ⟨zF, zC HB.out GE386.out⟩
 ·rw [if_neg c2] at H
  have c2b0 : decide (32 < (l0.length : Int)) = false := decide_eq_false c2
  have c2b1 : decide (32 < l0.length) = false := decide_eq_false (by omega)
  clear c2
  have H' := Aside0.mk H
  clear H
  go_enter Try.func14, Try.ntmps14
  go_wp2_with (first | ((with_reducible refine gate_dst (N := 2) rfl ?_); refine box_event ?hg (N := 2) ?hd (cs := #[.int .i64 0, .int .i64 0]) (t := 27) ?hr ?_; (case hd => rfl); (case hg => rfl); (case hr => first | (go_simp; done) | (go_simp; rfl)); intro gb386 hg w5 hbox hb; have n0_ := Aside0.mk (below_step (zB HB.out) hb); have n1_ := Aside0.mk (hbox); have n2_ := Aside0.mk ((by rw [hg]; exact (below_size (zB HB.out)) : w.heap.size ≤ gb386)); have n3_ := Aside0.mk ((by rw [hg]; exact (below_size (zB HB.out)) : w.heap.size ≤ gb386)); clear HB; have HB := n0_; have BK386 := n1_; have GW386 := n2_; have GE386 := n3_; clear n0_ n1_ n2_ n3_; clear hb hbox hg))
  go_loopg [3] k (fun kq v3 w' => ∃ (x3_1 : Int) (x387000_1 : Int) (x387001_1 : Int), v3 = .int .i64 x3_1 ∧ Aside0 (turntableref33_Check.l0 kq l0 x3_1 = some (r1, r2)) ∧ Aside0 (kq ≤ k) ∧ Aside0 (w'.heap[gb386]? = some (.cells #[.int .i64 x387000_1, .int .i64 x387001_1] 27 (0, 0))) ∧ Aside0 (Below w.heap.size w w'))
  case atStart => exact ⟨(0), (0), (0), (by first | rfl | (simp; done) | (simp [*]; done)), H', ⟨Nat.le_refl _⟩, ⟨zK BK386.out⟩, ⟨zC HB.out GE386.out⟩⟩
  case round =>
   clear H'
   try clear c1
   try clear c2
   try clear c2b0
   try clear c2b1
   try clear p2
   try clear hcz4_0
   try clear hcz4_1
   try clear hfz4_0
   try clear hfz4_1
   obtain ⟨x3_1, x387000_1, x387001_1, rfl, HA, HK1, BK386, HB⟩ := hrel
   cases gk with
   | zero => exact absurd HA.out (by simp [turntableref33_Check.l0])
   | succ k1 =>
    have H := HA.out
    clear HA
    simp only [turntableref33_Check.l0] at H
    by_cases c6 : x3_1 < (l0.length : Int)
    ·rw [if_pos c6] at H
     have c6b0 : decide (x3_1 < (l0.length : Int)) = true := decide_eq_true c6
     clear c6
     by_cases c7 : 0 ≤ x3_1
     ·rw [if_pos c7] at H
      have c7b0 : decide (0 ≤ x3_1) = true := decide_eq_true c7
      clear c7
      replace H := Option.bind_eq_some_iff.mp H
      obtain ⟨t388, A80, H⟩ := H
      replace H : (if t388 = 0 then (turntableref33_Check.l0 k1 l0 (wrap64 (x3_1 + 1))) else (some (t388, x3_1))) = some (r1, r2) := H
      have A8 := Aside0.mk A80
      clear A80
      by_cases c9 : t388 = 0
      ·rw [if_pos c9] at H
       have c9b0 : (t388 == 0) = true := beq_iff_eq.mpr c9
       have c9b1 : (t388 != 0) = false := bne_eq_false_iff_eq.mpr c9
       clear c9
       have H' := Aside0.mk H
       clear H
       have p387 : 0 ≤ (x3_1 : Int) := of_decide_eq_true zS
       have q387 : x3_1 < (l0.length : Int) := of_decide_eq_true zS
       obtain ⟨ad387, A387_0, c387_0, A387_2, c387_2, e387, hx387_0, hx387_1, hx387_2, hl387_0, hi387_0, hl387_2, hi387_2⟩ := at_T47 HR0.out x3_1 p387 q387
       cases e387
       replace hx387_0 := (HB.out.cell (World.block_lt_of_cell? w _ hx387_0)).trans hx387_0
       replace hx387_1 := (HB.out.cell (World.block_lt_of_cell? w _ hx387_1)).trans hx387_1
       replace hx387_2 := (HB.out.cell (World.block_lt_of_cell? w _ hx387_2)).trans hx387_2
       have HR387_0 := Aside0.mk hi387_0
       have HC387_0 := Aside0.mk hl387_0
       clear hi387_0 hl387_0
       have HR387_2 := Aside0.mk hi387_2
       have HC387_2 := Aside0.mk hl387_2
       clear hi387_2 hl387_2
       replace p387 := eq_true p387
       replace q387 := eq_true q387
       go_wp2_with (first | ((with_reducible refine gate_callee (f := 35) rfl ?_); refine goesL_ (some 23) rfl rfl Try.func35 (by kernel_rfl) rfl #[.agg #[.slice A387_0 ((rd_T47 l0 x3_1).f0).length c387_0, .int .i64 ((rd_T47 l0 x3_1).f1), .slice A387_2 ((rd_T47 l0 x3_1).f2).length c387_2], .int .i64 (l0.length : Int)] rfl zA ?_; (with_reducible refine (turntableref33_one.calls k1 _ _ ((rd_T47 l0 x3_1).f0) ((rd_T47 l0 x3_1).f1) _ _ ((rd_T47 l0 x3_1).f2) (l0.length : Int) t388 _ ?side1 ?side2 ?side3 ?side4 A8.out).mono ?_); (case side1 => repeat (first | exact (Kd.C_below HR387_0.out HB.out) | (with_reducible refine Kd.C_alloc ?_ _) | (with_reducible refine Kd.C_drewN ?_ _) | (with_reducible refine Kd.C_drew ?_))); (case side2 => exact HC387_0.out); (case side3 => repeat (first | exact (Kd.C_below HR387_2.out HB.out) | (with_reducible refine Kd.C_alloc ?_ _) | (with_reducible refine Kd.C_drewN ?_ _) | (with_reducible refine Kd.C_drew ?_))); (case side4 => exact HC387_2.out); rintro e w10 ⟨rfl, hb⟩; refine ⟨_, rfl, ?_⟩; have n0_ := Aside0.mk (blk_below (g := gb386) (o := .cells #[.int .i64 x387000_1, .int .i64 x387001_1] 27 (0, 0)) (zK BK386.out) hb); have n1_ := Aside0.mk (below_step (zC HB.out GE386.out) hb); clear BK386; clear HB; have BK386 := n0_; have HB := n1_; clear n0_ n1_; (try clear hb); (try clear hb2); (try clear hk); (try clear hi)))
       go_roundg k1
       case measure => have := HK1.out; omega
       case rel => exact ⟨(wrap64 (x3_1 + 1)), (x387000_1), (x387001_1), (by first | rfl | (simp; done) | (simp [*]; done)), H', ⟨by have := HK1.out; omega⟩, ⟨zK BK386.out⟩, ⟨zC HB.out GE386.out⟩⟩
      ·rw [if_neg c9] at H
       have c9b0 : (t388 == 0) = false := beq_eq_false_iff_ne.mpr c9
       have c9b1 : (t388 != 0) = true := bne_iff_ne.mpr c9
       simp only [Option.some.injEq, Prod.mk.injEq] at H
       obtain ⟨rfl, rfl⟩ := H
       have p387 : 0 ≤ (x3_1 : Int) := of_decide_eq_true zS
       have q387 : x3_1 < (l0.length : Int) := of_decide_eq_true zS
       obtain ⟨ad387, A387_0, c387_0, A387_2, c387_2, e387, hx387_0, hx387_1, hx387_2, hl387_0, hi387_0, hl387_2, hi387_2⟩ := at_T47 HR0.out x3_1 p387 q387
       cases e387
       replace hx387_0 := (HB.out.cell (World.block_lt_of_cell? w _ hx387_0)).trans hx387_0
       replace hx387_1 := (HB.out.cell (World.block_lt_of_cell? w _ hx387_1)).trans hx387_1
       replace hx387_2 := (HB.out.cell (World.block_lt_of_cell? w _ hx387_2)).trans hx387_2
       have HR387_0 := Aside0.mk hi387_0
       have HC387_0 := Aside0.mk hl387_0
       clear hi387_0 hl387_0
       have HR387_2 := Aside0.mk hi387_2
       have HC387_2 := Aside0.mk hl387_2
       clear hi387_2 hl387_2
       replace p387 := eq_true p387
       replace q387 := eq_true q387
       go_wp2_with (first | ((with_reducible refine gate_callee (f := 35) rfl ?_); refine goesL_ (some 23) rfl rfl Try.func35 (by kernel_rfl) rfl #[.agg #[.slice A387_0 ((rd_T47 l0 x3_1).f0).length c387_0, .int .i64 ((rd_T47 l0 x3_1).f1), .slice A387_2 ((rd_T47 l0 x3_1).f2).length c387_2], .int .i64 (l0.length : Int)] rfl zA ?_; (with_reducible refine (turntableref33_one.calls k1 _ _ ((rd_T47 l0 x3_1).f0) ((rd_T47 l0 x3_1).f1) _ _ ((rd_T47 l0 x3_1).f2) (l0.length : Int) t388 _ ?side1 ?side2 ?side3 ?side4 A8.out).mono ?_); (case side1 => repeat (first | exact (Kd.C_below HR387_0.out HB.out) | (with_reducible refine Kd.C_alloc ?_ _) | (with_reducible refine Kd.C_drewN ?_ _) | (with_reducible refine Kd.C_drew ?_))); (case side2 => exact HC387_0.out); (case side3 => repeat (first | exact (Kd.C_below HR387_2.out HB.out) | (with_reducible refine Kd.C_alloc ?_ _) | (with_reducible refine Kd.C_drewN ?_ _) | (with_reducible refine Kd.C_drew ?_))); (case side4 => exact HC387_2.out); rintro e w11 ⟨rfl, hb⟩; refine ⟨_, rfl, ?_⟩; have n0_ := Aside0.mk (blk_below (g := gb386) (o := .cells #[.int .i64 x387000_1, .int .i64 x387001_1] 27 (0, 0)) (zK BK386.out) hb); have n1_ := Aside0.mk (below_step (zC HB.out GE386.out) hb); clear BK386; clear HB; have BK386 := n0_; have HB := n1_; clear n0_ n1_; (try clear hb); (try clear hb2); (try clear hk); (try clear hi); have hcz12_0 : w11.cell? ⟨gb386, 0, none⟩ = some (.int .i64 x387000_1) := (blk_cell BK386.out 0).trans rfl; have hcz12_1 : w11.cell? ⟨gb386, 1, none⟩ = some (.int .i64 x387001_1) := (blk_cell BK386.out 1).trans rfl; have hfz12_0 := blk_frozen BK386.out 0; have hfz12_1 := blk_frozen BK386.out 1))
       refine bodyPost_ret (results_cell_row rfl _ _ gb386 27 #[.int .i64 t388, .int .i64 x3_1] (0, 0) _ rfl (by (with_reducible repeat (first | refine blk_drewN ?_ _ | refine blk_drew ?_ | refine blk_alloc ?_ _)); refine blk_put (cs := #[.int .i64 t388, .int .i64 x387001_1]) ?_ 1 _ rfl; (with_reducible repeat (first | refine blk_drewN ?_ _ | refine blk_drew ?_ | refine blk_alloc ?_ _)); refine blk_put (cs := #[.int .i64 x387000_1, .int .i64 x387001_1]) ?_ 0 _ rfl; (with_reducible repeat (first | refine blk_drewN ?_ _ | refine blk_drew ?_ | refine blk_alloc ?_ _)); exact BK386.out) Try.underlying27 rfl (by kernel_rfl)) rfl ?_
       exact ⟨zF, zC HB.out GE386.out⟩
     ·rw [if_neg c7] at H
      exact absurd H (by simp)
    ·rw [if_neg c6] at H
     have c6b0 : decide (x3_1 < (l0.length : Int)) = false := decide_eq_false c6
     clear c6
     simp only [Option.some.injEq, Prod.mk.injEq] at H
     obtain ⟨rfl, rfl⟩ := H
     have hcz13_0 : wr.cell? ⟨gb386, 0, none⟩ = some (.int .i64 x387000_1) := (blk_cell BK386.out 0).trans rfl
     have hcz13_1 : wr.cell? ⟨gb386, 1, none⟩ = some (.int .i64 x387001_1) := (blk_cell BK386.out 1).trans rfl
     have hfz13_0 := blk_frozen BK386.out 0
     have hfz13_1 := blk_frozen BK386.out 1
     go_wp2
     refine bodyPost_ret (results_cell_row rfl _ _ gb386 27 #[.int .i64 0, .int .i64 0] (0, 0) _ rfl (by (with_reducible repeat (first | refine blk_drewN ?_ _ | refine blk_drew ?_ | refine blk_alloc ?_ _)); refine blk_put (cs := #[.int .i64 0, .int .i64 x387001_1]) ?_ 1 _ rfl; (with_reducible repeat (first | refine blk_drewN ?_ _ | refine blk_drew ?_ | refine blk_alloc ?_ _)); refine blk_put (cs := #[.int .i64 x387000_1, .int .i64 x387001_1]) ?_ 0 _ rfl; (with_reducible repeat (first | refine blk_drewN ?_ _ | refine blk_drew ?_ | refine blk_alloc ?_ _)); exact BK386.out) Try.underlying27 rfl (by kernel_rfl)) rfl ?_
     exact ⟨zF, zC HB.out GE386.out⟩

/-! ### turntablelaw33_CodeChecks: function 3 -/
def turntablelaw33_CodeChecks.f (k : Nat) (l0 : List (S47)) : Option (Bool) := (turntablelaw33_light.f k l0).bind fun t389 => (if t389 = true then ((code_Check.f k l0).bind fun bt390 => ((turntableref33_Check.f k l0).bind fun bt392 => (if (bt390.1 == bt392.1 && (bt390.2 == bt392.2)) = true then ((turntablelaw33_works.f k).bind fun t394 => (some t394)) else (none)))) else ((turntablelaw33_works.f k).bind fun t395 => (some t395)))
theorem turntablelaw33_CodeChecks.mono : ∀ a0 k, LeO (turntablelaw33_CodeChecks.f k a0) (turntablelaw33_CodeChecks.f (k + 1) a0) := by
 intro a0 k
 unfold turntablelaw33_CodeChecks.f
 repeat' first
   | (with_reducible exact code_Check.mono _ _)
   | (with_reducible exact turntablelaw33_light.mono _ _)
   | (with_reducible exact turntablelaw33_works.mono _)
   | (with_reducible exact turntableref33_Check.mono _ _)
   | (with_reducible exact LeO.refl _)
   | (with_reducible exact LeO.none _)
   | (with_reducible refine LeO.ite ?_ ?_)
   | (with_reducible refine LeO.bind ?_ (fun _ => ?_))
   | exact code_Check.mono _ _
   | exact turntablelaw33_light.mono _ _
   | exact turntablelaw33_works.mono _
   | exact turntableref33_Check.mono _ _
   | exact LeO.none _
   | refine LeO.ite ?_ ?_
   | refine LeO.bind ?_ (fun _ => ?_)
set_option maxHeartbeats 8000000 in
set_option maxRecDepth 100000 in
theorem turntablelaw33_CodeChecks.calls (k : Nat) (A0 : Option Addr) (c0 : Nat) (l0 : List (S47)) (r : Bool) (w : World) (hr0 : Kd.C k47 w A0 l0.length l0) (hc0 : l0.length ≤ c0) (h : turntablelaw33_CodeChecks.f k l0 = some r) :
  Calls Try.prog 3 #[.slice A0 l0.length c0] w fun e w' => e = .returned (.bool r) ∧ Below w.heap.size w w' := by
 have HR0 := Aside0.mk hr0
 have HC0 := Aside0.mk hc0
 clear hr0 hc0
 have HB := Aside0.mk (Below.refl w.heap.size w)
 have H : ((turntablelaw33_light.f k l0).bind fun t389 => (if t389 = true then ((code_Check.f k l0).bind fun bt390 => ((turntableref33_Check.f k l0).bind fun bt392 => (if (bt390.1 == bt392.1 && (bt390.2 == bt392.2)) = true then ((turntablelaw33_works.f k).bind fun t394 => (some t394)) else (none)))) else ((turntablelaw33_works.f k).bind fun t395 => (some t395)))) = some r := h
 clear h
 replace H := Option.bind_eq_some_iff.mp H
 obtain ⟨t389, A20, H⟩ := H
 replace H : (if t389 = true then ((code_Check.f k l0).bind fun bt390 => ((turntableref33_Check.f k l0).bind fun bt392 => (if (bt390.1 == bt392.1 && (bt390.2 == bt392.2)) = true then ((turntablelaw33_works.f k).bind fun t394 => (some t394)) else (none)))) else ((turntablelaw33_works.f k).bind fun t395 => (some t395))) = some r := H
 have A2 := Aside0.mk A20
 clear A20
 by_cases c3 : t389 = true
 ·subst c3
  have H1 : ((code_Check.f k l0).bind fun bt390 => ((turntableref33_Check.f k l0).bind fun bt392 => (if (bt390.1 == bt392.1 && (bt390.2 == bt392.2)) = true then ((turntablelaw33_works.f k).bind fun t394 => (some t394)) else (none)))) = some r := by rw [if_pos rfl] at H; exact H
  clear H
  have H := H1
  clear H1
  replace H := Option.bind_eq_some_iff.mp H
  obtain ⟨⟨t390, t391⟩, A40, H⟩ := H
  replace H : ((turntableref33_Check.f k l0).bind fun bt392 => (if (t390 == bt392.1 && (t391 == bt392.2)) = true then ((turntablelaw33_works.f k).bind fun t394 => (some t394)) else (none))) = some r := H
  have A4 := Aside0.mk A40
  clear A40
  replace H := Option.bind_eq_some_iff.mp H
  obtain ⟨⟨t392, t393⟩, A50, H⟩ := H
  replace H : (if (t390 == t392 && (t391 == t393)) = true then ((turntablelaw33_works.f k).bind fun t394 => (some t394)) else (none)) = some r := H
  have A5 := Aside0.mk A50
  clear A50
  by_cases c6 : (t390 == t392 && (t391 == t393)) = true
  ·rw [if_pos c6] at H
   have c6b0 : (t390 == t392 && (t391 == t393)) = true := c6
   (try (have c6b1 : decide (t390 = t392 && (t391 == t393)) = true := by simpa using c6))
   (try (have c6b2 : (t390 == t392 && (t391 == t393)) = true := by simpa using c6))
   clear c6
   replace H := Option.bind_eq_some_iff.mp H
   obtain ⟨t394, A70, H⟩ := H
   replace H : (some t394) = some r := H
   have A7 := Aside0.mk A70
   clear A70
   obtain rfl := Option.some.inj H
   go_enter Try.func3, Try.ntmps3
   go_wp2_with (first | ((with_reducible refine gate_callee (f := 11) rfl ?_); refine goesL_ (some 4) rfl rfl Try.func11 (by kernel_rfl) rfl #[.slice A0 l0.length c0] rfl zA ?_; (with_reducible refine (turntablelaw33_light.calls k _ _ l0 true _ ?side1 ?side2 A2.out).mono ?_); (case side1 => repeat (first | exact HR0.out | (with_reducible refine Kd.C_alloc ?_ _) | (with_reducible refine Kd.C_drewN ?_ _) | (with_reducible refine Kd.C_drew ?_))); (case side2 => exact HC0.out); rintro e w' ⟨rfl, ⟨nd, rfl⟩⟩; refine ⟨_, rfl, ?_⟩) | ((with_reducible refine gate_callee (f := 13) rfl ?_); refine goesL_ (some 8) rfl rfl Try.func13 (by kernel_rfl) rfl #[.slice A0 l0.length c0] rfl zA ?_; (with_reducible refine (code_Check.calls k _ _ l0 t390 t391 _ ?side1 ?side2 A4.out).mono ?_); (case side1 => repeat (first | exact HR0.out | (with_reducible refine Kd.C_alloc ?_ _) | (with_reducible refine Kd.C_drewN ?_ _) | (with_reducible refine Kd.C_drew ?_))); (case side2 => exact HC0.out); rintro e w8 ⟨rfl, hb⟩; refine ⟨_, rfl, ?_⟩; have n0_ := Aside0.mk (below_step (zB HB.out) hb); clear HB; have HB := n0_; clear n0_; (try clear hb); (try clear hb2); (try clear hk); (try clear hi)) | ((with_reducible refine gate_callee (f := 14) rfl ?_); refine goesL_ (some 10) rfl rfl Try.func14 (by kernel_rfl) rfl #[.slice A0 l0.length c0] rfl zA ?_; (with_reducible refine (turntableref33_Check.calls k _ _ l0 t392 t393 _ ?side1 ?side2 A5.out).mono ?_); (case side1 => repeat (first | exact (Kd.C_below HR0.out HB.out) | (with_reducible refine Kd.C_alloc ?_ _) | (with_reducible refine Kd.C_drewN ?_ _) | (with_reducible refine Kd.C_drew ?_))); (case side2 => exact HC0.out); rintro e w9 ⟨rfl, hb⟩; refine ⟨_, rfl, ?_⟩; have n0_ := Aside0.mk (below_step (zB HB.out) hb); clear HB; have HB := n0_; clear n0_; (try clear hb); (try clear hb2); (try clear hk); (try clear hi)) | (go_at_call 12; (with_reducible refine (turntablelaw33_works.calls k  t394 _ A7.out).mono ?_); rintro e w10 ⟨rfl, hb⟩; have n0_ := Aside0.mk (below_step (zB HB.out) hb); clear HB; have HB := n0_; clear n0_; (try clear hb); (try clear hb2); (try clear hk); (try clear hi)))
   go_ret
   exact ⟨zF, zB HB.out⟩
  ·rw [if_neg c6] at H
   exact absurd H (by simp)
 ·replace c3 := Bool.eq_false_iff.mpr c3
  subst c3
  have H1 : ((turntablelaw33_works.f k).bind fun t395 => (some t395)) = some r := by rw [if_neg (show ¬ (false = true) by decide)] at H; exact H
  clear H
  have H := H1
  clear H1
  replace H := Option.bind_eq_some_iff.mp H
  obtain ⟨t395, A110, H⟩ := H
  replace H : (some t395) = some r := H
  have A11 := Aside0.mk A110
  clear A110
  obtain rfl := Option.some.inj H
  go_enter Try.func3, Try.ntmps3
  go_wp2_with (first | ((with_reducible refine gate_callee (f := 11) rfl ?_); refine goesL_ (some 4) rfl rfl Try.func11 (by kernel_rfl) rfl #[.slice A0 l0.length c0] rfl zA ?_; (with_reducible refine (turntablelaw33_light.calls k _ _ l0 false _ ?side1 ?side2 A2.out).mono ?_); (case side1 => repeat (first | exact HR0.out | (with_reducible refine Kd.C_alloc ?_ _) | (with_reducible refine Kd.C_drewN ?_ _) | (with_reducible refine Kd.C_drew ?_))); (case side2 => exact HC0.out); rintro e w' ⟨rfl, ⟨nd, rfl⟩⟩; refine ⟨_, rfl, ?_⟩) | ((with_reducible refine gate_callee (f := 12) rfl ?_); refine goesL_ (some 6) rfl rfl Try.func12 (by kernel_rfl) rfl #[] rfl zA ?_; (with_reducible refine (turntablelaw33_works.calls k  t395 _ A11.out).mono ?_); rintro e w12 ⟨rfl, hb⟩; refine ⟨_, rfl, ?_⟩; have n0_ := Aside0.mk (below_step (zB HB.out) hb); clear HB; have HB := n0_; clear n0_; (try clear hb); (try clear hb2); (try clear hk); (try clear hi)))
  go_ret
  exact ⟨zF, zB HB.out⟩

end Go.Proofs.Ytpjehipemljkpaa.PCo
