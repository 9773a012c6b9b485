import Derived.Test.YtkgjbdbhpohkiaaMb2
import Derived.Test.YtkgjbdbhpohkiaaMb19
import Derived.Test.YtkgjbdbhpohkiaaMb17
import Derived.ChangeArms
import Derived.ChangeOld
import Derived.OpenShut
import Derived.SizedLaws
import Derived.DataReads
import Derived.Test.YtkgjbdbhpohkiaaMb0
import Derived.KernelRfl
import Derived.Test.YtkgjbdbhpohkiaaMb8
section
-- PRINTED by a turned copy of the kit's print (patch_print.py); not typed by hand. Lean checks it.
namespace Go.Proofs.Ytkgjbdbhpohkiaa.PLi
open Go.RowKit Go.Proofs.YtkgjbdbhpohkiaaW.PrintWords Go.Proofs.YtkgjbdbhpohkiaaW.PrintLast Go.Proofs.YtkgjbdbhpohkiaaW.PrintMore Go.Proofs.Ytkgjbdbhpohkiaa.Zip
attribute [local go_sem] max2_int min2_int max_two min_two max_three min_three max_four min_four   -- for this text's walks alone
set_option linter.unusedVariables false
set_option linter.unusedSimpArgs false

/-! ### turntableref33_Check: function 8 -/
def turntableref33_Check.l0 : Nat → List (S33) → Int → Option (Int × Int)
 | 0, _, _ => none
 | k + 1, x0, x3 => if x3 < (x0.length : Int) then (if 0 ≤ x3 then ((turntableref33_one.f k ((rd_T33 x0 x3).f0) ((rd_T33 x0 x3).f1) ((rd_T33 x0 x3).f2) (x0.length : Int)).bind fun t116 => (if t116 = 0 then (turntableref33_Check.l0 k x0 (wrap64 (x3 + 1))) else (some (t116, x3)))) else (none)) else (some (0, 0))
def turntableref33_Check.f (k : Nat) (l0 : List (S33)) : Option (Int × Int) := if (l0.length : Int) > 32 then (some (6, (l0.length : Int))) else (turntableref33_Check.l0 k l0 0)
theorem turntableref33_Check.mono_l : ∀ k, (∀ y0 y1, LeO (turntableref33_Check.l0 k y0 y1) (turntableref33_Check.l0 (k + 1) y0 y1))
 | 0 => fun _ _ r h => by simp [turntableref33_Check.l0] at h
 | k + 1 => by
  have ih0 := turntableref33_Check.mono_l k
  ·intro y0 y1
   unfold turntableref33_Check.l0
   repeat' first
   | (with_reducible exact ih0 _ _)
   | (with_reducible exact turntableref33_one.mono _ _ _ _ _)
   | (with_reducible exact LeO.refl _)
   | (with_reducible exact LeO.none _)
   | (with_reducible refine LeO.ite ?_ ?_)
   | (with_reducible refine LeO.bind ?_ (fun _ => ?_))
   | exact ih0 _ _
   | exact turntableref33_one.mono _ _ _ _ _
   | exact LeO.none _
   | refine LeO.ite ?_ ?_
   | refine LeO.bind ?_ (fun _ => ?_)
theorem turntableref33_Check.mono : ∀ a0 k, LeO (turntableref33_Check.f k a0) (turntableref33_Check.f (k + 1) a0) := by
 intro a0 k
 have ih0 := turntableref33_Check.mono_l k
 unfold turntableref33_Check.f
 repeat' first
   | (with_reducible exact ih0 _ _)
   | (with_reducible exact turntableref33_one.mono _ _ _ _ _)
   | (with_reducible exact LeO.refl _)
   | (with_reducible exact LeO.none _)
   | (with_reducible refine LeO.ite ?_ ?_)
   | (with_reducible refine LeO.bind ?_ (fun _ => ?_))
   | exact ih0 _ _
   | exact turntableref33_one.mono _ _ _ _ _
   | exact LeO.none _
   | refine LeO.ite ?_ ?_
   | refine LeO.bind ?_ (fun _ => ?_)
set_option maxHeartbeats 8000000 in
set_option maxRecDepth 100000 in
theorem turntableref33_Check.calls (k : Nat) (A0 : Option Addr) (c0 : Nat) (l0 : List (S33)) (r1 : Int) (r2 : Int) (w : World) (hr0 : Kd.C k33 w A0 l0.length l0) (hc0 : l0.length ≤ c0) (h : turntableref33_Check.f k l0 = some (r1, r2)) :
  Calls Try.prog 8 #[.slice A0 l0.length c0] w fun e w' => e = .returned (.agg #[.int .i64 r1, .int .i64 r2]) ∧ Below w.heap.size w w' := by
 have hu26 := Try.underlying26
 have hu33 := Try.underlying33
 have HR0 := Aside0.mk hr0
 have HC0 := Aside0.mk hc0
 clear hr0 hc0
 have HB := Aside0.mk (Below.refl w.heap.size w)
 have H : (if (l0.length : Int) > 32 then (some (6, (l0.length : Int))) else (turntableref33_Check.l0 k l0 0)) = some (r1, r2) := h
 clear h
 by_cases c2 : (l0.length : Int) > 32
 ·rw [if_pos c2] at H
  have c2b0 : decide (32 < (l0.length : Int)) = true := decide_eq_true c2
  have c2b1 : decide (32 < l0.length) = true := decide_eq_true (by omega)
  clear c2
  simp only [Option.some.injEq, Prod.mk.injEq] at H
  obtain ⟨rfl, rfl⟩ := H
  go_enter Try.func8, Try.ntmps8
  go_wp2_with (first | ((with_reducible refine gate_dst (N := 2) rfl ?_); refine box_event ?hg (N := 2) ?hd (cs := #[.int .i64 0, .int .i64 0]) (t := 26) ?hr ?_; (case hd => rfl); (case hg => rfl); (case hr => first | (go_simp; done) | (go_simp; rfl)); intro gb114 hg w3 hbox hb; have n0_ := Aside0.mk (below_step (zB HB.out) hb); have n1_ := Aside0.mk (hbox); have n2_ := Aside0.mk ((by rw [hg]; exact (below_size (zB HB.out)) : w.heap.size ≤ gb114)); have n3_ := Aside0.mk ((by rw [hg]; exact (below_size (zB HB.out)) : w.heap.size ≤ gb114)); clear HB; have HB := n0_; have BK114 := n1_; have GW114 := n2_; have GE114 := n3_; clear n0_ n1_ n2_ n3_; clear hb hbox hg; have hcz4_0 : w3.cell? ⟨gb114, 0, none⟩ = some (.int .i64 0) := (blk_cell BK114.out 0).trans rfl; have hcz4_1 : w3.cell? ⟨gb114, 1, none⟩ = some (.int .i64 0) := (blk_cell BK114.out 1).trans rfl; have hfz4_0 := blk_frozen BK114.out 0; have hfz4_1 := blk_frozen BK114.out 1))
  refine bodyPost_ret (results_cell_row rfl _ _ gb114 26 #[.int .i64 6, .int .i64 (l0.length : Int)] (0, 0) _ rfl (by (with_reducible repeat (first | refine blk_drewN ?_ _ | refine blk_drew ?_ | refine blk_alloc ?_ _)); refine blk_put (cs := #[.int .i64 6, .int .i64 0]) ?_ 1 _ rfl; (with_reducible repeat (first | refine blk_drewN ?_ _ | refine blk_drew ?_ | refine blk_alloc ?_ _)); refine blk_put (cs := #[.int .i64 0, .int .i64 0]) ?_ 0 _ rfl; (with_reducible repeat (first | refine blk_drewN ?_ _ | refine blk_drew ?_ | refine blk_alloc ?_ _)); exact BK114.out) Try.underlying26 rfl (by kernel_rfl)) rfl ?_
  exact ⟨zF, zC HB.out GE114.out⟩
 ·rw [if_neg c2] at H
  have c2b0 : decide (32 < (l0.length : Int)) = false := decide_eq_false c2
  have c2b1 : decide (32 < l0.length) = false := decide_eq_false (by omega)
  clear c2
  have H' := Aside0.mk H
  clear H
  go_enter Try.func8, Try.ntmps8
  go_wp2_with (first | ((with_reducible refine gate_dst (N := 2) rfl ?_); refine box_event ?hg (N := 2) ?hd (cs := #[.int .i64 0, .int .i64 0]) (t := 26) ?hr ?_; (case hd => rfl); (case hg => rfl); (case hr => first | (go_simp; done) | (go_simp; rfl)); intro gb114 hg w5 hbox hb; have n0_ := Aside0.mk (below_step (zB HB.out) hb); have n1_ := Aside0.mk (hbox); have n2_ := Aside0.mk ((by rw [hg]; exact (below_size (zB HB.out)) : w.heap.size ≤ gb114)); have n3_ := Aside0.mk ((by rw [hg]; exact (below_size (zB HB.out)) : w.heap.size ≤ gb114)); clear HB; have HB := n0_; have BK114 := n1_; have GW114 := n2_; have GE114 := n3_; clear n0_ n1_ n2_ n3_; clear hb hbox hg))
  go_loopg [3] k (fun kq v3 w' => ∃ (x3_1 : Int) (x115000_1 : Int) (x115001_1 : Int), v3 = .int .i64 x3_1 ∧ Aside0 (turntableref33_Check.l0 kq l0 x3_1 = some (r1, r2)) ∧ Aside0 (kq ≤ k) ∧ Aside0 (w'.heap[gb114]? = some (.cells #[.int .i64 x115000_1, .int .i64 x115001_1] 26 (0, 0))) ∧ Aside0 (Below w.heap.size w w'))
  case atStart => exact ⟨(0), (0), (0), (by first | rfl | (simp; done) | (simp [*]; done)), H', ⟨Nat.le_refl _⟩, ⟨zK BK114.out⟩, ⟨zC HB.out GE114.out⟩⟩
  case round =>
   clear H'
   try clear c2
   try clear c2b0
   try clear c2b1
   try clear p2
   try clear hcz4_0
   try clear hcz4_1
   try clear hfz4_0
   try clear hfz4_1
   obtain ⟨x3_1, x115000_1, x115001_1, rfl, HA, HK1, BK114, HB⟩ := hrel
   cases gk with
   | zero => exact absurd HA.out (by simp [turntableref33_Check.l0])
   | succ k1 =>
    have H := HA.out
    clear HA
    simp only [turntableref33_Check.l0] at H
    by_cases c6 : x3_1 < (l0.length : Int)
    ·rw [if_pos c6] at H
     have c6b0 : decide (x3_1 < (l0.length : Int)) = true := decide_eq_true c6
     clear c6
     by_cases c7 : 0 ≤ x3_1
     ·rw [if_pos c7] at H
      have c7b0 : decide (0 ≤ x3_1) = true := decide_eq_true c7
      clear c7
      replace H := Option.bind_eq_some_iff.mp H
      obtain ⟨t116, A80, H⟩ := H
      replace H : (if t116 = 0 then (turntableref33_Check.l0 k1 l0 (wrap64 (x3_1 + 1))) else (some (t116, x3_1))) = some (r1, r2) := H
      have A8 := Aside0.mk A80
      clear A80
      by_cases c9 : t116 = 0
      ·rw [if_pos c9] at H
       have c9b0 : (t116 == 0) = true := beq_iff_eq.mpr c9
       have c9b1 : (t116 != 0) = false := bne_eq_false_iff_eq.mpr c9
       clear c9
       have H' := Aside0.mk H
       clear H
       have p115 : 0 ≤ (x3_1 : Int) := of_decide_eq_true zS
       have q115 : x3_1 < (l0.length : Int) := of_decide_eq_true zS
       obtain ⟨ad115, A115_0, c115_0, A115_2, c115_2, e115, hx115_0, hx115_1, hx115_2, hl115_0, hi115_0, hl115_2, hi115_2⟩ := at_T33 HR0.out x3_1 p115 q115
       cases e115
       replace hx115_0 := (HB.out.cell (World.block_lt_of_cell? w _ hx115_0)).trans hx115_0
       replace hx115_1 := (HB.out.cell (World.block_lt_of_cell? w _ hx115_1)).trans hx115_1
       replace hx115_2 := (HB.out.cell (World.block_lt_of_cell? w _ hx115_2)).trans hx115_2
       have HR115_0 := Aside0.mk hi115_0
       have HC115_0 := Aside0.mk hl115_0
       clear hi115_0 hl115_0
       have HR115_2 := Aside0.mk hi115_2
       have HC115_2 := Aside0.mk hl115_2
       clear hi115_2 hl115_2
       replace p115 := eq_true p115
       replace q115 := eq_true q115
       go_wp2_with (first | ((with_reducible refine gate_callee (f := 20) rfl ?_); refine goesL_ (some 23) rfl rfl Try.func20 (by kernel_rfl) rfl #[.agg #[.slice A115_0 ((rd_T33 l0 x3_1).f0).length c115_0, .int .i64 ((rd_T33 l0 x3_1).f1), .slice A115_2 ((rd_T33 l0 x3_1).f2).length c115_2], .int .i64 (l0.length : Int)] rfl zA ?_; (with_reducible refine (turntableref33_one.calls k1 _ _ ((rd_T33 l0 x3_1).f0) ((rd_T33 l0 x3_1).f1) _ _ ((rd_T33 l0 x3_1).f2) (l0.length : Int) t116 _ ?side1 ?side2 ?side3 ?side4 A8.out).mono ?_); (case side1 => repeat (first | exact (Kd.C_below HR115_0.out HB.out) | (with_reducible refine Kd.C_alloc ?_ _) | (with_reducible refine Kd.C_drewN ?_ _) | (with_reducible refine Kd.C_drew ?_))); (case side2 => exact HC115_0.out); (case side3 => repeat (first | exact (Kd.C_below HR115_2.out HB.out) | (with_reducible refine Kd.C_alloc ?_ _) | (with_reducible refine Kd.C_drewN ?_ _) | (with_reducible refine Kd.C_drew ?_))); (case side4 => exact HC115_2.out); rintro e w10 ⟨rfl, hb⟩; refine ⟨_, rfl, ?_⟩; have n0_ := Aside0.mk (blk_below (g := gb114) (o := .cells #[.int .i64 x115000_1, .int .i64 x115001_1] 26 (0, 0)) (zK BK114.out) hb); have n1_ := Aside0.mk (below_step (zC HB.out GE114.out) hb); clear BK114; clear HB; have BK114 := n0_; have HB := n1_; clear n0_ n1_; (try clear hb); (try clear hb2); (try clear hk); (try clear hi)))
       go_roundg k1
       case measure => have := HK1.out; omega
       case rel => exact ⟨(wrap64 (x3_1 + 1)), (x115000_1), (x115001_1), (by first | rfl | (simp; done) | (simp [*]; done)), H', ⟨by have := HK1.out; omega⟩, ⟨zK BK114.out⟩, ⟨zC HB.out GE114.out⟩⟩
      ·rw [if_neg c9] at H
       have c9b0 : (t116 == 0) = false := beq_eq_false_iff_ne.mpr c9
       have c9b1 : (t116 != 0) = true := bne_iff_ne.mpr c9
       simp only [Option.some.injEq, Prod.mk.injEq] at H
       obtain ⟨rfl, rfl⟩ := H
       have p115 : 0 ≤ (x3_1 : Int) := of_decide_eq_true zS
       have q115 : x3_1 < (l0.length : Int) := of_decide_eq_true zS
       obtain ⟨ad115, A115_0, c115_0, A115_2, c115_2, e115, hx115_0, hx115_1, hx115_2, hl115_0, hi115_0, hl115_2, hi115_2⟩ := at_T33 HR0.out x3_1 p115 q115
       cases e115
       replace hx115_0 := (HB.out.cell (World.block_lt_of_cell? w _ hx115_0)).trans hx115_0
       replace hx115_1 := (HB.out.cell (World.block_lt_of_cell? w _ hx115_1)).trans hx115_1
       replace hx115_2 := (HB.out.cell (World.block_lt_of_cell? w _ hx115_2)).trans hx115_2
       have HR115_0 := Aside0.mk hi115_0
       have HC115_0 := Aside0.mk hl115_0
       clear hi115_0 hl115_0
       have HR115_2 := Aside0.mk hi115_2
       have HC115_2 := Aside0.mk hl115_2
       clear hi115_2 hl115_2
       replace p115 := eq_true p115
       replace q115 := eq_true q115
       go_wp2_with (first | ((with_reducible refine gate_callee (f := 20) rfl ?_); refine goesL_ (some 23) rfl rfl Try.func20 (by kernel_rfl) rfl #[.agg #[.slice A115_0 ((rd_T33 l0 x3_1).f0).length c115_0, .int .i64 ((rd_T33 l0 x3_1).f1), .slice A115_2 ((rd_T33 l0 x3_1).f2).length c115_2], .int .i64 (l0.length : Int)] rfl zA ?_; (with_reducible refine (turntableref33_one.calls k1 _ _ ((rd_T33 l0 x3_1).f0) ((rd_T33 l0 x3_1).f1) _ _ ((rd_T33 l0 x3_1).f2) (l0.length : Int) t116 _ ?side1 ?side2 ?side3 ?side4 A8.out).mono ?_); (case side1 => repeat (first | exact (Kd.C_below HR115_0.out HB.out) | (with_reducible refine Kd.C_alloc ?_ _) | (with_reducible refine Kd.C_drewN ?_ _) | (with_reducible refine Kd.C_drew ?_))); (case side2 => exact HC115_0.out); (case side3 => repeat (first | exact (Kd.C_below HR115_2.out HB.out) | (with_reducible refine Kd.C_alloc ?_ _) | (with_reducible refine Kd.C_drewN ?_ _) | (with_reducible refine Kd.C_drew ?_))); (case side4 => exact HC115_2.out); rintro e w11 ⟨rfl, hb⟩; refine ⟨_, rfl, ?_⟩; have n0_ := Aside0.mk (blk_below (g := gb114) (o := .cells #[.int .i64 x115000_1, .int .i64 x115001_1] 26 (0, 0)) (zK BK114.out) hb); have n1_ := Aside0.mk (below_step (zC HB.out GE114.out) hb); clear BK114; clear HB; have BK114 := n0_; have HB := n1_; clear n0_ n1_; (try clear hb); (try clear hb2); (try clear hk); (try clear hi); have hcz12_0 : w11.cell? ⟨gb114, 0, none⟩ = some (.int .i64 x115000_1) := (blk_cell BK114.out 0).trans rfl; have hcz12_1 : w11.cell? ⟨gb114, 1, none⟩ = some (.int .i64 x115001_1) := (blk_cell BK114.out 1).trans rfl; have hfz12_0 := blk_frozen BK114.out 0; have hfz12_1 := blk_frozen BK114.out 1))
       refine bodyPost_ret (results_cell_row rfl _ _ gb114 26 #[.int .i64 t116, .int .i64 x3_1] (0, 0) _ rfl (by (with_reducible repeat (first | refine blk_drewN ?_ _ | refine blk_drew ?_ | refine blk_alloc ?_ _)); refine blk_put (cs := #[.int .i64 t116, .int .i64 x115001_1]) ?_ 1 _ rfl; (with_reducible repeat (first | refine blk_drewN ?_ _ | refine blk_drew ?_ | refine blk_alloc ?_ _)); refine blk_put (cs := #[.int .i64 x115000_1, .int .i64 x115001_1]) ?_ 0 _ rfl; (with_reducible repeat (first | refine blk_drewN ?_ _ | refine blk_drew ?_ | refine blk_alloc ?_ _)); exact BK114.out) Try.underlying26 rfl (by kernel_rfl)) rfl ?_
       exact ⟨zF, zC HB.out GE114.out⟩
     ·rw [if_neg c7] at H
      exact absurd H (by simp)
    ·rw [if_neg c6] at H
     have c6b0 : decide (x3_1 < (l0.length : Int)) = false := decide_eq_false c6
     clear c6
     simp only [Option.some.injEq, Prod.mk.injEq] at H
     obtain ⟨rfl, rfl⟩ := H
     have hcz13_0 : wr.cell? ⟨gb114, 0, none⟩ = some (.int .i64 x115000_1) := (blk_cell BK114.out 0).trans rfl
     have hcz13_1 : wr.cell? ⟨gb114, 1, none⟩ = some (.int .i64 x115001_1) := (blk_cell BK114.out 1).trans rfl
     have hfz13_0 := blk_frozen BK114.out 0
     have hfz13_1 := blk_frozen BK114.out 1
     go_wp2
     refine bodyPost_ret (results_cell_row rfl _ _ gb114 26 #[.int .i64 0, .int .i64 0] (0, 0) _ rfl (by (with_reducible repeat (first | refine blk_drewN ?_ _ | refine blk_drew ?_ | refine blk_alloc ?_ _)); refine blk_put (cs := #[.int .i64 0, .int .i64 x115001_1]) ?_ 1 _ rfl; (with_reducible repeat (first | refine blk_drewN ?_ _ | refine blk_drew ?_ | refine blk_alloc ?_ _)); refine blk_put (cs := #[.int .i64 x115000_1, .int .i64 x115001_1]) ?_ 0 _ rfl; (with_reducible repeat (first | refine blk_drewN ?_ _ | refine blk_drew ?_ | refine blk_alloc ?_ _)); exact BK114.out) Try.underlying26 rfl (by kernel_rfl)) rfl ?_
     exact ⟨zF, zC HB.out GE114.out⟩

end Go.Proofs.Ytkgjbdbhpohkiaa.PLi
end
section
/- What may be written is read again: the law ListingBack, walked. -/
namespace Go.Proofs.Ytkgjbdbhpohkiaa.PLi
open Go.RowKit Go.Proofs.YtkgjbdbhpohkiaaW.PrintWords Go.Proofs.YtkgjbdbhpohkiaaW.PrintLast Go.Proofs.YtkgjbdbhpohkiaaW.PrintMore Go.Proofs.Ytkgjbdbhpohkiaa.Str
set_option linter.unusedVariables false
set_option linter.unusedSimpArgs false

def turntablelaw37_ListingBack.f (k : Nat) (l : List S33) : Option Bool :=
  (turntablelaw37_light.f k l).bind fun b => if b = false then some true else (turntableref33_Check.f k l).bind fun e => if e.1 = 0 then (listing_Text.f k l).bind fun t => (listing_Read.f k t).bind fun x => if x.2.1 = 0 then (turntableref32_Same.f k l x.1).bind fun s => if s = true then some true else none else none else some true
set_option maxHeartbeats 8000000 in
set_option maxRecDepth 100000 in
theorem turntablelaw37_ListingBack.calls (k : Nat) (A0 : Option Addr) (c0 : Nat) (l : List S33) (r : Bool) (w : World) (hr0 : Kd.C k33 w A0 l.length l) (hc0 : l.length ≤ c0) (h : turntablelaw37_ListingBack.f k l = some r) :
    Calls Try.prog 5 #[.slice A0 l.length c0] w fun e w' => e = .returned (.bool r) ∧ Below w.heap.size w w' := by
  have hu33 := Try.underlying33
  have hu37 := Try.underlying37
  have hu26 := Try.underlying26
  have hfl : ∀ (u0 u1 : Value) (W : World), (Instr.field 26 (.agg #[u0, u1]) 0).run Try.prog W = .ok (u0) W := fun _ _ _ => by show _ = _; kernel_rfl
  unfold turntablelaw37_ListingBack.f at h
  have HC := Aside0.mk hr0
  have HL := Aside0.mk hc0
  have HB := Aside0.mk (Below.refl w.heap.size w)
  clear hr0 hc0
  replace h := Option.bind_eq_some_iff.mp h
  obtain ⟨b, hb_, h⟩ := h
  have HLI := Aside0.mk hb_
  clear hb_
  cases b with
  | false =>
    rw [if_pos rfl] at h
    obtain rfl := Option.some.inj h
    go_enter Try.func5, Try.ntmps5
    go_wp2_with fail
    refine (turntablelaw37_light.calls k A0 c0 l false _ HC.out HL.out HLI.out).mono ?_
    rintro e w1 ⟨rfl, hb0⟩
    have hb := hb0.below
    clear hb0
    have HB1 := Aside0.mk (below_step HB.out hb)
    clear hb
    go_wp2_with fail
    refine (turntablelaw37_works.calls true _ rfl).mono ?_
    rintro e w2 ⟨rfl, hb⟩
    have HB2 := Aside0.mk (below_step HB1.out hb)
    clear hb
    go_wp2
    go_ret
    exact ⟨rfl, HB2.out⟩
  | true =>
    rw [if_neg (by simp)] at h
    replace h := Option.bind_eq_some_iff.mp h
    obtain ⟨⟨e1, e2⟩, he, h⟩ := h
    have HE := Aside0.mk he
    clear he
    by_cases ce : e1 = 0
    rotate_left
    · rw [if_neg ce] at h
      obtain rfl := Option.some.inj h
      have g1 : (e1 != 0) = true := bne_iff_ne.mpr ce
      clear ce
      go_enter Try.func5, Try.ntmps5
      go_wp2_with fail
      refine (turntablelaw37_light.calls k A0 c0 l true _ HC.out HL.out HLI.out).mono ?_
      rintro e w1 ⟨rfl, hb0⟩
      have hb := hb0.below
      clear hb0
      have HB1 := Aside0.mk (below_step HB.out hb)
      have HC1 := Aside0.mk (Kd.C_below HC.out hb)
      clear hb
      go_wp2_with fail
      refine (turntableref33_Check.calls k A0 c0 l e1 e2 _ HC1.out HL.out HE.out).mono ?_
      rintro e w2 ⟨rfl, hb⟩
      have HB2 := Aside0.mk (below_step HB1.out hb)
      clear hb
      go_wp2_with fail
      refine (turntablelaw37_works.calls true _ rfl).mono ?_
      rintro e w3 ⟨rfl, hb⟩
      have HB3 := Aside0.mk (below_step HB2.out hb)
      clear hb
      go_wp2
      go_ret
      exact ⟨rfl, HB3.out⟩
    rw [if_pos ce] at h
    have g1 : (e1 != 0) = false := bne_eq_false_iff_eq.mpr ce
    clear ce
    replace h := Option.bind_eq_some_iff.mp h
    obtain ⟨t, ht, h⟩ := h
    replace h := Option.bind_eq_some_iff.mp h
    obtain ⟨⟨x, f1, f2⟩, hx, h⟩ := h
    by_cases cf : f1 = 0
    rotate_left
    · rw [if_neg cf] at h
      cases h
    rw [if_pos cf] at h
    have g2 : (f1 == 0) = true := beq_iff_eq.mpr cf
    replace h := Option.bind_eq_some_iff.mp h
    obtain ⟨s, hs, h⟩ := h
    cases s with
    | false => cases h
    | true =>
      obtain rfl := Option.some.inj h
      have HT := Aside0.mk ht
      have HX := Aside0.mk hx
      have HS := Aside0.mk hs
      clear ht hx hs h cf
      go_enter Try.func5, Try.ntmps5
      go_wp2_with fail
      refine (turntablelaw37_light.calls k A0 c0 l true _ HC.out HL.out HLI.out).mono ?_
      rintro e w1 ⟨rfl, hb0⟩
      have hb := hb0.below
      clear hb0
      have HB1 := Aside0.mk (below_step HB.out hb)
      have HC1 := Aside0.mk (Kd.C_below HC.out hb)
      clear hb
      go_wp2_with fail
      refine (turntableref33_Check.calls k A0 c0 l e1 e2 _ HC1.out HL.out HE.out).mono ?_
      rintro e w2 ⟨rfl, hb⟩
      have HB2 := Aside0.mk (below_step HB1.out hb)
      have HC2 := Aside0.mk (Kd.C_below HC1.out hb)
      clear hb
      go_wp2_with fail
      refine (listing_Text.calls k A0 c0 l t _ HC2.out HL.out HT.out).mono ?_
      rintro e w3 ⟨rfl, hb⟩
      have HB3 := Aside0.mk (below_step HB2.out hb)
      have HC3 := Aside0.mk (Kd.C_below HC2.out hb)
      clear hb
      go_wp2_with fail
      refine (listing_Read.calls k t x f1 f2 _ HX.out).mono ?_
      rintro e w4 ⟨v4, rfl, hr4, hb⟩
      obtain ⟨A4, c4, e_, hl4, hC4⟩ := Kd.R_reads hr4
      subst e_
      clear hr4
      have HL4 := Aside0.mk hl4
      clear hl4
      have HB4 := Aside0.mk (below_step HB3.out hb)
      have HC4 := Aside0.mk (Kd.C_below HC3.out hb)
      clear hb
      have hbx := below_alloc (Below.refl w4.heap.size w4) (.cells #[.int .i64 f1, .int .i64 f2] 26)
      have HB5 := Aside0.mk (below_step HB4.out hbx)
      have HE5 := Aside0.mk (blk_new w4 (.cells #[.int .i64 f1, .int .i64 f2] 26))
      have HC5 := Aside0.mk (Kd.C_below HC4.out hbx)
      have HX5 := Aside0.mk (Kd.C_below hC4 hbx)
      go_upto_region 4 with (fail)
      generalize hww : w4 = w4_ at *
      generalize w4_.alloc (.cells #[.int .i64 f1, .int .i64 f2] 26) = W5 at *
      clear hww hbx
      clear hC4
      have x0 := blk_cell HE5.out 0
      go_wp2_with fail
      refine (turntableref32_Same.calls k A0 c0 l A4 c4 x true _ HC5.out HL.out HX5.out HL4.out HS.out).mono ?_
      rintro e w6 ⟨rfl, hb⟩
      have HB6 := Aside0.mk (below_step HB5.out hb)
      clear hb
      go_wp2_with fail
      refine (turntablelaw37_works.calls true _ rfl).mono ?_
      rintro e w7 ⟨rfl, hb⟩
      have HB7 := Aside0.mk (below_step HB6.out hb)
      clear hb
      go_wp2
      go_ret
      exact ⟨rfl, HB7.out⟩
end Go.Proofs.Ytkgjbdbhpohkiaa.PLi
end
section
/- How what a law is handed is laid open: whatever reads as data of a type (nested structs, arrays, slices, strings, numbers) is a Lean value of that type's kind; its lengths keep the reach. No condition of ours. -/
namespace Go.Proofs.Ytkgjbdbhpohkiaa.Open
open Go.Proofs.YtkgjbdbhpohkiaaW.PrintWords

/-- Whatever reads as data of type t is a value of the kind d, of which 'good' holds. -/
def Opens (P : Program) {α : Type} (d : Kd α) (t : TypeId) (good : α → Prop) : Prop :=
  ∀ {H : Type} (enc : TypeId × Value → H) (w : World) (fuel : Nat) (cs : List Value) (x : DataW H × List MemPlace),
    DataW.trod enc P w 0 (fun _ => true) true fuel t cs = some x → (∀ n ∈ x.1.weights P t, n ≤ reachBytes) → ∃ a, d.K w a cs ∧ good a

section
variable {P : Program} {α β : Type}

theorem Opens.imp {d : Kd α} {t : TypeId} {good good' : α → Prop} (h : Opens P d t good) (hg : ∀ a, good a → good' a) : Opens P d t good' :=
  fun enc w fuel cs x hx hw => let ⟨a, hk, ha⟩ := h enc w fuel cs x hx hw; ⟨a, hk, hg a ha⟩

theorem opens_int {t : TypeId} {k : IntKind} (hu : P.underlying t = some (.int k)) : Opens P (Kd.int k) t (fun n => (Lit.int k n).wf = true) := by
  intro H enc w fuel cs x hx _
  obtain ⟨n, rfl, _, hn⟩ := DataW.trod_int hu hx
  exact ⟨n, rfl, hn⟩

theorem opens_bool {t : TypeId} (hu : P.underlying t = some .bool) : Opens P Kd.bool t (fun _ => True) := by
  intro H enc w fuel cs x hx _
  obtain ⟨n, rfl, _⟩ := DataW.trod_bool hu hx
  exact ⟨n, rfl, trivial⟩

theorem opens_string {t : TypeId} (hu : P.underlying t = some .string) : Opens P Kd.string t (fun s => s.size ≤ 140737488351232) := by
  intro H enc w fuel cs x hx hw
  obtain ⟨s, rfl, rfl, _⟩ := DataW.trod_string hu hx
  refine ⟨s, rfl, ?_⟩
  have := hw s.data.toList.length (by simp [DataW.weights])
  simpa [reachBytes] using this

theorem opens_slice {t e e' : TypeId} {d : Kd α} {good : α → Prop} {B : Nat} (hu : P.underlying t = some (.slice e)) (hd : Opens P d e good) (hsz : P.cellsOf e = d.sz) (hB : P.bytesOf e = B) :
    Opens P (Kd.slice e' d) t (fun xs => xs.length * B ≤ 140737488351232 ∧ ∀ x ∈ xs, good x) := by
  intro H enc w fuel cs x hx hw
  rcases DataW.trod_slice hu hx with ⟨rfl, rfl⟩ | ⟨a, len, cap, elems, rest, n, rfl, rfl, rfl, _, hlc, hcm, hlen, hel, _, _⟩
  · exact ⟨[], ⟨none, 0, rfl, Nat.le_refl _, rfl, by simp, fun h => absurd h (by simp)⟩, by simp, by simp⟩
  · have hwe : ∀ q ∈ elems, ∀ n ∈ q.1.weights P e, n ≤ reachBytes := by
      intro q hq n hn
      refine hw n ?_
      simp only [DataW.weights, hu]
      refine List.mem_cons_of_mem _ (List.mem_append_left _ ?_)
      have key : ∀ (l : List (DataW H)) (y : DataW H), y ∈ l → ∀ n ∈ y.weights P e, n ∈ DataW.weightsAll P e l := by
        intro l
        induction l with
        | nil => intro y hy; cases hy
        | cons z zs ih =>
          intro y hy n hn
          simp only [DataW.weightsAll, List.mem_append]
          rcases List.mem_cons.1 hy with rfl | hy
          · exact .inl hn
          · exact .inr (ih y hy n hn)
      exact key _ _ (List.mem_map_of_mem hq) n hn
    have hone : ∀ i, i < len → ∃ y c, w.cells? 0 (a.add (i * P.cellsOf e)) (P.cellsOf e) = some c ∧ d.K w y c ∧ good y := by
      intro i hi
      have h1 := hel i hi
      have h2 : i < elems.length := by omega
      rw [List.getElem?_eq_getElem h2] at h1
      obtain ⟨c, hc, ht⟩ := Option.bind_eq_some_iff.1 h1
      obtain ⟨y, hy, hg⟩ := hd enc w n c _ ht (hwe _ (List.getElem_mem h2))
      exact ⟨y, c, hc, hy, hg⟩
    have hall : ∀ m, m ≤ len → ∃ ys : List α, ys.length = m ∧ (∀ y ∈ ys, good y) ∧ ∀ j p, ys[j]? = some p → ∃ c, w.cells? 0 (a.add (j * P.cellsOf e)) (P.cellsOf e) = some c ∧ d.K w p c := by
      intro m
      induction m with
      | zero => intro _; exact ⟨[], rfl, by simp, by simp⟩
      | succ m ih =>
        intro hm
        obtain ⟨ys, hl, hg, hys⟩ := ih (by omega)
        obtain ⟨y, c, hc, hk, hgy⟩ := hone m (by omega)
        refine ⟨ys ++ [y], by simp [hl], ?_, ?_⟩
        · intro z hz
          rcases List.mem_append.1 hz with hz | hz
          · exact hg z hz
          · rw [List.mem_singleton.1 hz]; exact hgy
        · intro j p hj
          rcases Nat.lt_or_ge j ys.length with hlt | hge
          · rw [List.getElem?_append_left hlt] at hj
            exact hys j p hj
          · have hlt2 := (List.getElem?_eq_some_iff.1 hj).1
            rw [List.length_append, List.length_singleton] at hlt2
            have : j = ys.length := by omega
            subst this
            rw [List.getElem?_append_right (Nat.le_refl _)] at hj
            simp at hj
            subst hj
            rw [hl]
            exact ⟨c, hc, hk⟩
    obtain ⟨ys, hl, hg, hys⟩ := hall len (Nat.le_refl _)
    subst hl
    refine ⟨ys, ⟨some a, cap, rfl, hlc, rfl, ?_, fun _ => ⟨a, rfl, fun j p hj => ?_⟩⟩, ?_, hg⟩
    · unfold maxLen at hcm; omega
    · obtain ⟨c, hc, hk⟩ := hys j p hj
      obtain ⟨_, hcl, hcell⟩ := World.cells?_some hc
      refine ⟨c, by rw [hcl, hsz], hk, fun i u hu2 => ?_⟩
      have hi : i < P.cellsOf e := by rw [← hcl]; exact (List.getElem?_eq_some_iff.1 hu2).1
      have := hcell i hi
      rw [hu2] at this
      rw [← hsz, ← this]
      congr 1
      unfold Addr.add
      by_cases h0 : j * P.cellsOf e = 0
      · simp [h0]
      · by_cases h1 : i = 0
        · simp [h1]
        · have h2 : j * P.cellsOf e + i ≠ 0 := by omega
          simp only [h0, h1, h2, if_false]
          congr 1
          omega
    · have := hw (((elems.map (·.1)).length + (rest.map (·.1)).length) * P.bytesOf e) (by simp [DataW.weights, hu])
      simp only [List.length_map] at this
      rw [hB] at this
      have h3 : ys.length * B ≤ (elems.length + rest.length) * B := Nat.mul_le_mul_right _ (by omega)
      have h4 : (elems.length + rest.length) * B ≤ 140737488351232 := by simpa [reachBytes] using this
      omega

/-- The fields of a struct (or an array's elements) from a place of its cells on. -/
def OpensF (P : Program) (ts : List (Nat × TypeId)) (d : Kd α) (off : Nat) (good : α → Prop) : Prop :=
  ∀ {H : Type} (enc : TypeId × Value → H) (w : World) (fuel : Nat) (cs : List Value) (xs : List (DataW H × List MemPlace)), xs.length = ts.length → off + d.sz ≤ cs.length →
    (∀ (i : Nat) (q : Nat × TypeId), ts[i]? = some q → DataW.trod enc P w 0 (fun _ => true) true fuel q.2 ((cs.drop q.1).take (P.cellsOf q.2)) = xs[i]?) →
    (∀ n ∈ DataW.weightsEach P (ts.map (·.2)) (xs.map (·.1)), n ≤ reachBytes) → ∃ a, d.K w a ((cs.drop off).take d.sz) ∧ good a

theorem opensF_one {t : TypeId} {d : Kd α} {off : Nat} {good : α → Prop} (h : Opens P d t good) (hsz : P.cellsOf t = d.sz) : OpensF P [(off, t)] d off good := by
  intro H enc w fuel cs xs hl _ hx hw
  match xs, hl with
  | [x], _ =>
    have := hx 0 (off, t) rfl
    rw [hsz] at this
    exact h enc w fuel _ x this (fun n hn => hw n (by simp [DataW.weightsEach, hn]))

theorem opensF_cons {t : TypeId} {d : Kd α} {d' : Kd β} {off off' : Nat} {ts : List (Nat × TypeId)} {good : α → Prop} {good' : β → Prop} (h : Opens P d t good) (hsz : P.cellsOf t = d.sz)
    (hoff : off' = off + d.sz) (h' : OpensF P ts d' off' good') : OpensF P ((off, t) :: ts) (Kd.pair d d') off (fun p => good p.1 ∧ good' p.2) := by
  intro H enc w fuel cs xs hl hcs hx hw
  subst hoff
  match xs, hl with
  | x :: xs, hl =>
    have hs : (Kd.pair d d').sz = d.sz + d'.sz := rfl
    rw [hs] at hcs
    have h0 := hx 0 (off, t) rfl
    rw [hsz] at h0
    obtain ⟨a, ha, hga⟩ := h enc w fuel _ x h0 (fun n hn => hw n (by simp [DataW.weightsEach, hn]))
    obtain ⟨b, hb, hgb⟩ := h' enc w fuel cs xs (by simpa using hl) (by omega) (fun i q hq => by simpa using hx (i + 1) q (by simpa using hq)) (fun n hn => hw n (by simp [DataW.weightsEach, hn]))
    refine ⟨(a, b), ⟨_, _, ?_, ha, hb⟩, hga, hgb⟩
    rw [hs, List.take_add, List.drop_drop]

theorem opens_struct {fs : Array Field} {t : TypeId} {d : Kd α} {f : β → α} {g : α → β} {good : α → Prop} (hu : P.underlying t = some (.struct fs)) (hc : P.cellsOf t = d.sz)
    (h : OpensF P (fs.toList.map fun f => (f.offset, f.type)) d 0 good) (hfg : ∀ a, f (g a) = a) : Opens P (Kd.iso d f) t (fun b => good (f b)) := by
  intro H enc w fuel cs x hx hw
  obtain ⟨xs, n, rfl, rfl, hl, hxl, hxs⟩ := DataW.trod_struct hu hx
  obtain ⟨a, ha, hg⟩ := h enc w n cs xs (by simp [hxl]) (by omega) (fun i q hq => by
    rw [List.getElem?_map] at hq
    obtain ⟨f, hf, rfl⟩ := Option.map_eq_some_iff.1 hq
    exact hxs i f (by simpa using hf)) (fun n hn => hw n (by
      simp only [DataW.weights, hu]
      simpa [List.map_map, Function.comp_def] using hn))
  refine ⟨g a, ?_, by show good (f (g a)); rw [hfg]; exact hg⟩
  show d.K w (f (g a)) cs
  rw [hfg]
  rw [List.drop_zero, ← hc, ← hl, List.take_length] at ha
  exact ha

theorem weightsEach_replicate {H : Type} (P : Program) (e : TypeId) : ∀ (l : List (DataW H)) (n : Nat), n = l.length → DataW.weightsEach P (List.replicate n e) l = DataW.weightsAll P e l
  | [], 0, _ => rfl
  | d :: l, n + 1, h => by simp only [List.replicate_succ, DataW.weightsEach, DataW.weightsAll]; rw [weightsEach_replicate P e l n (by simpa using h)]

theorem opens_array {m : Nat} {e t : TypeId} {ts : List (Nat × TypeId)} {d : Kd α} {f : β → α} {g : α → β} {good : α → Prop} (hu : P.underlying t = some (.array m e)) (hc : P.cellsOf t = d.sz)
    (hts : ts = (List.range m).map fun i => (i * P.cellsOf e, e)) (h : OpensF P ts d 0 good) (hfg : ∀ a, f (g a) = a) : Opens P (Kd.iso d f) t (fun b => good (f b)) := by
  intro H enc w fuel cs x hx hw
  subst hts
  obtain ⟨xs, n, rfl, rfl, hl, hxl, hxs⟩ := DataW.trod_array hu hx
  obtain ⟨a, ha, hg⟩ := h enc w n cs xs (by simp [hxl]) (by omega) (fun i q hq => by
    have hi := (List.getElem?_eq_some_iff.1 hq).1
    simp at hi
    rw [List.getElem?_map, List.getElem?_range hi] at hq
    simp at hq
    subst hq
    exact hxs i hi) (fun n hn => hw n (by
      simp only [DataW.weights, hu]
      rw [← weightsEach_replicate P e _ m (by simp [hxl])]
      have : (List.map (fun x => x.2) (List.map (fun i => (i * P.cellsOf e, e)) (List.range m))) = List.replicate m e := by
        rw [List.map_map]
        refine List.ext_getElem (by simp) (fun i h1 h2 => by simp)
      rwa [this] at hn))
  refine ⟨g a, ?_, by show good (f (g a)); rw [hfg]; exact hg⟩
  show d.K w (f (g a)) cs
  rw [hfg]
  rw [List.drop_zero, ← hc, ← hl, List.take_length] at ha
  exact ha

theorem okWide_array {w : World} {r : Reach} {base m : Nat} {t e : TypeId} {v : Value} (ht : P.underlying t = some (.array m e)) (h : Value.okWide P w r base t v) : ∃ cs, v = .agg cs ∧ cs.size = P.cellsOf t := by
  simp only [Value.okWide, ht] at h
  obtain ⟨cs, h1, h2, _⟩ := h
  exact ⟨cs, h1, h2⟩
end
end Go.Proofs.Ytkgjbdbhpohkiaa.Open
end
section
-- PRINTED by a turned copy of the kit's print (patch_print.py); not typed by hand. Lean checks it.
namespace Go.Proofs.Ytkgjbdbhpohkiaa.ListingBackSaid
open Go.RowKit Go.Proofs.Ytkgjbdbhpohkiaa.PLi Go.Proofs.Ytkgjbdbhpohkiaa.Open Go.Proofs.YtkgjbdbhpohkiaaW.PrintWords Go.Proofs.YtkgjbdbhpohkiaaW.PrintLast
set_option linter.unusedVariables false
def good35 (x : S35) : Prop := ((Lit.int .i64 x.f0).wf = true) ∧ ((Lit.int .i64 x.f1).wf = true)
theorem open35 : Opens Try.prog k35 35 good35 := Opens.imp (opens_array (g := fun p => ⟨p.1, p.2⟩) Try.underlying35 (by kernel_rfl) (by kernel_rfl) (opensF_cons (off := 0) (off' := 1) (opens_int Try.underlying3) (by kernel_rfl) (by kernel_rfl) (opensF_one (off := 1) (opens_int Try.underlying3) (by kernel_rfl))) (fun _ => rfl)) (fun b h => h)
def good37 (x : S37) : Prop := ((Lit.int .i64 x.f0).wf = true) ∧ ((Lit.int .i64 x.f1).wf = true) ∧ ((Lit.int .i64 x.f2).wf = true) ∧ ((Lit.int .i64 x.f3).wf = true) ∧ ((Lit.int .i64 x.f4).wf = true) ∧ (x.f5.length * 8 ≤ 140737488351232 ∧ ∀ x_ ∈ x.f5, (Lit.int .i64 x_).wf = true) ∧ (good35 x.f6)
theorem open37 : Opens Try.prog k37 37 good37 := Opens.imp (opens_struct (g := fun p => ⟨p.1, p.2.1, p.2.2.1, p.2.2.2.1, p.2.2.2.2.1, p.2.2.2.2.2.1, p.2.2.2.2.2.2⟩) Try.underlying37 (by kernel_rfl) (opensF_cons (off := 0) (off' := 1) (opens_int Try.underlying3) (by kernel_rfl) (by kernel_rfl) (opensF_cons (off := 1) (off' := 2) (opens_int Try.underlying3) (by kernel_rfl) (by kernel_rfl) (opensF_cons (off := 2) (off' := 3) (opens_int Try.underlying3) (by kernel_rfl) (by kernel_rfl) (opensF_cons (off := 3) (off' := 4) (opens_int Try.underlying3) (by kernel_rfl) (by kernel_rfl) (opensF_cons (off := 4) (off' := 5) (opens_int Try.underlying2) (by kernel_rfl) (by kernel_rfl) (opensF_cons (off := 5) (off' := 6) (opens_slice (e' := 3) (B := 8) Try.underlying30 (opens_int Try.underlying3) (by kernel_rfl) (by kernel_rfl)) (by kernel_rfl) (by kernel_rfl) (opensF_one (off := 6) open35 (by kernel_rfl)))))))) (fun _ => rfl)) (fun b h => h)
def good33 (x : S33) : Prop := (x.f0.length * 8 ≤ 140737488351232 ∧ ∀ x_ ∈ x.f0, (Lit.int .i64 x_).wf = true) ∧ ((Lit.int .i64 x.f1).wf = true) ∧ (x.f2.length * 80 ≤ 140737488351232 ∧ ∀ x_ ∈ x.f2, good37 x_)
theorem open33 : Opens Try.prog k33 33 good33 := Opens.imp (opens_struct (g := fun p => ⟨p.1, p.2.1, p.2.2⟩) Try.underlying33 (by kernel_rfl) (opensF_cons (off := 0) (off' := 1) (opens_slice (e' := 3) (B := 8) Try.underlying30 (opens_int Try.underlying3) (by kernel_rfl) (by kernel_rfl)) (by kernel_rfl) (by kernel_rfl) (opensF_cons (off := 1) (off' := 2) (opens_int Try.underlying3) (by kernel_rfl) (by kernel_rfl) (opensF_one (off := 2) (opens_slice (e' := 37) (B := 80) Try.underlying31 open37 (by kernel_rfl) (by kernel_rfl)) (by kernel_rfl)))) (fun _ => rfl)) (fun b h => h)
def ListingBack.Good : Prop := ∀ (a0 : List (S33)), (a0.length * 56 ≤ 140737488351232 ∧ ∀ x_ ∈ a0, good33 x_) → ∃ k, turntablelaw37_ListingBack.f k a0 = some true
end Go.Proofs.Ytkgjbdbhpohkiaa.ListingBackSaid
end
section
/- Which number a text is (digits.Parse and the reference's), and a number as digits: what the printed functions answer, told by plain functions on lists of bytes. No condition but that the text is no longer than memory. -/
namespace Go.Proofs.Ytkgjbdbhpohkiaa.DigLaw
set_option linter.unusedSimpArgs false
open Go.RowKit Go.Proofs.YtkgjbdbhpohkiaaW.PrintWords Go.Proofs.YtkgjbdbhpohkiaaW.PrintLast Go.Proofs.YtkgjbdbhpohkiaaW.PrintMore Go.Proofs.Ytkgjbdbhpohkiaa.Str Go.Proofs.Ytkgjbdbhpohkiaa.Dig Go.Proofs.Ytkgjbdbhpohkiaa.PLi

def isD (c : UInt8) : Bool := decide (48 ≤ c.toNat) && decide (c.toNat ≤ 57)
def vn (n : Nat) (c : UInt8) : Nat := n * 10 + (c.toNat - 48)
/-- What digits are worth, behind what stood ahead. -/
def valD (v : Nat) (l : List UInt8) : Nat := l.foldl vn v
def fin (low : Bool) (V : Nat) : Int × Int := if 9223372036854775808 < V ∨ low = false ∧ V = 9223372036854775808 then (0, 18) else if low = true then (-(V : Int), 0) else ((V : Int), 0)
def finish (low : Bool) (rest : List UInt8) (v : Nat) : Int × Int := if rest.all isD = true then fin low (valD v rest) else (0, 3)
/-- A text's digits may not be: none, or a nought ahead of others, or nought below nought. -/
def badD (low : Bool) (t : List UInt8) : Bool := t.isEmpty || decide (1 < t.length) && t.head? == some 48 || low && t == [48]
def parseT (low : Bool) (t : List UInt8) : Int × Int := if badD low t = true then (0, 3) else finish low t 0
/-- The number that a text is; beside it 0, or why it is none. -/
def parseL (l : List UInt8) : Int × Int := if l.head? = some 45 then parseT true l.tail else parseT false l

theorem isD_iff (c : UInt8) : isD c = true ↔ 48 ≤ c.toNat ∧ c.toNat ≤ 57 := by unfold isD; rw [Bool.and_eq_true, decide_eq_true_iff, decide_eq_true_iff]
theorem valD_cons (v : Nat) (c : UInt8) (l : List UInt8) : valD v (c :: l) = valD (vn v c) l := List.foldl_cons ..
theorem valD_ge : ∀ (l : List UInt8) (v : Nat), v ≤ valD v l := by
  intro l
  induction l with
  | nil => intro v; exact Nat.le_refl _
  | cons c l ih =>
    intro v
    have h1 : v ≤ vn v c := by unfold vn; omega
    rw [valD_cons]
    exact Nat.le_trans h1 (ih (vn v c))
theorem valD_append (v : Nat) (a b : List UInt8) : valD v (a ++ b) = valD (valD v a) b := List.foldl_append ..

theorem j5_ev (low : Bool) (n : Int) (v : Nat) (hv : v ≤ 9223372036854775808) (hn : n = -(v : Int)) :
    Ev (fun k => digits_Parse.j5 k low n (!low && n == -9223372036854775808)) (fin low v) := by
  refine Ev.step (f := fun _ => some (fin low v)) (fun k => ?_) (Ev.now _)
  unfold digits_Parse.j5 fin
  subst hn
  by_cases h : v = 9223372036854775808
  · subst h
    cases low <;> simp
  · have h1 : ¬ 9223372036854775808 < v := by omega
    have h2 : (-(v : Int) == -9223372036854775808) = false := by rw [beq_eq_false_iff_ne]; omega
    have h3 : wrap64 (v : Int) = (v : Int) := by unfold wrap64; omega
    cases low <;> simp [h, h1, h2, h3]

theorem parse_loop (low : Bool) : ∀ (rest pre : List UInt8) (v : Nat) (far : Bool) (n : Int), (pre ++ rest).length ≤ 4611686018427387904 → far = decide (9223372036854775808 < v) → (far = false → n = -(v : Int)) →
    Ev (fun k => digits_Parse.l0 k low (mk (pre ++ rest)) n far (pre.length : Int)) (finish low rest v) := by
  intro rest
  induction rest with
  | nil =>
    intro pre v far n hl hf hn
    have hsz : ¬ ((pre.length : Int) < ((mk (pre ++ [])).size : Int)) := by rw [mk_size]; simp
    refine Ev.step (f := fun k => if far = true then digits_Parse.j5 k low n true else if low = true then digits_Parse.j5 k low n false else digits_Parse.j5 k low n (n == -9223372036854775808)) (fun k => by simp only [digits_Parse.l0]; rw [if_neg hsz]) ?_
    have e : finish low [] v = fin low v := by simp [finish, valD]
    rw [e]
    cases far with
    | true =>
      have hv : 9223372036854775808 < v := by simpa using hf.symm
      refine ev_pos rfl (Ev.step (f := fun _ => some (0, 18)) (fun k => by simp [digits_Parse.j5]) ?_)
      have : fin low v = (0, 18) := by unfold fin; rw [if_pos (.inl hv)]
      rw [this]; exact Ev.now _
    | false =>
      have hv : v ≤ 9223372036854775808 := by have := of_decide_eq_false hf.symm; omega
      refine ev_neg (by simp) ?_
      have := j5_ev low n v hv (hn rfl)
      cases low with
      | true => exact ev_pos rfl (by simpa using this)
      | false => exact ev_neg (by simp) (by simpa using this)
  | cons c rest ih =>
    intro pre v far n hl hf hn
    have hsz : (pre.length : Int) < ((mk (pre ++ c :: rest)).size : Int) := by rw [mk_size]; simp; omega
    have hb := bt_pre pre rest c
    have hc := UInt8.toNat_lt c
    refine Ev.step (f := fun k => if (c.toNat : Int) < 48 then digits_Parse.j4 k low (mk (pre ++ c :: rest)) n far pre.length c.toNat true else digits_Parse.j4 k low (mk (pre ++ c :: rest)) n far pre.length c.toNat (decide ((c.toNat : Int) > 57))) (fun k => by simp only [digits_Parse.l0]; rw [if_pos hsz, if_pos (by omega), hb]) ?_
    by_cases hd : isD c = true
    · obtain ⟨h48, h57⟩ := (isD_iff c).1 hd
      have e57 : decide ((c.toNat : Int) > 57) = false := decide_eq_false (by omega)
      refine ev_neg (by omega) ?_
      rw [e57]
      have hw : wrap64 ((pre.length : Int) + 1) = ((pre ++ [c]).length : Int) := by
        rw [w64 (by omega) (by simp at hl; omega)]; simp
      have hm : ((c.toNat : Int) - 48) % 256 = ((c.toNat - 48 : Nat) : Int) := by omega
      have hfin : finish low (c :: rest) v = finish low rest (vn v c) := by simp [finish, hd, valD_cons]
      have hpre : pre ++ c :: rest = (pre ++ [c]) ++ rest := by simp
      rw [hfin, hpre]
      have hl' : ((pre ++ [c]) ++ rest).length ≤ 4611686018427387904 := by rw [← hpre]; exact hl
      cases far with
      | true =>
        have hv : 9223372036854775808 < v := by simpa using hf.symm
        refine Ev.step (f := fun k => digits_Parse.l0 k low (mk ((pre ++ [c]) ++ rest)) n true ((pre ++ [c]).length : Int)) (fun k => by simp only [digits_Parse.j4, Bool.false_eq_true, if_false, if_true]; rw [hw]) ?_
        exact ih (pre ++ [c]) (vn v c) true n hl' (by unfold vn; rw [decide_eq_true (by omega)]) (by simp)
      | false =>
        have hv : v ≤ 9223372036854775808 := by have := of_decide_eq_false hf.symm; omega
        obtain rfl := hn rfl
        have ht : (-9223372036854775808 + ((c.toNat - 48 : Nat) : Int)).tdiv 10 = -(((9223372036854775808 - (c.toNat - 48)) / 10 : Nat) : Int) := by
          have e1 : -9223372036854775808 + ((c.toNat - 48 : Nat) : Int) = -((9223372036854775808 - (c.toNat - 48) : Nat) : Int) := by omega
          rw [e1, Int.neg_tdiv]
          rfl
        by_cases hfar : 9223372036854775808 < vn v c
        · refine Ev.step (f := fun k => digits_Parse.l0 k low (mk ((pre ++ [c]) ++ rest)) (-(v : Int)) true ((pre ++ [c]).length : Int)) (fun k => by simp only [digits_Parse.j4, Bool.false_eq_true, if_false, if_true]; rw [hm, if_pos (by rw [ht]; unfold vn at hfar; omega), hw]) ?_
          exact ih (pre ++ [c]) (vn v c) true _ hl' (by rw [decide_eq_true hfar]) (by simp)
        · refine Ev.step (f := fun k => digits_Parse.l0 k low (mk ((pre ++ [c]) ++ rest)) (-((vn v c : Nat) : Int)) false ((pre ++ [c]).length : Int)) (fun k => ?_) (ih (pre ++ [c]) (vn v c) false _ hl' (by rw [decide_eq_false hfar]) (fun _ => rfl))
          simp only [digits_Parse.j4, Bool.false_eq_true, if_false, if_true]
          rw [hm, if_neg (by rw [ht]; unfold vn at hfar; omega), hw]
          congr 1
          unfold vn at hfar ⊢
          unfold wrap64
          omega
    · have hfin : finish low (c :: rest) v = (0, 3) := by simp [finish, hd]
      rw [hfin]
      by_cases h48 : (c.toNat : Int) < 48
      · exact ev_pos h48 (Ev.step (f := fun _ => some (0, 3)) (fun k => by simp [digits_Parse.j4]) (Ev.now _))
      · have h57 : decide ((c.toNat : Int) > 57) = true := by
          refine decide_eq_true ?_
          have : ¬ (48 ≤ c.toNat ∧ c.toNat ≤ 57) := fun h => hd ((isD_iff c).2 h)
          omega
        refine ev_neg h48 ?_
        rw [h57]
        exact Ev.step (f := fun _ => some (0, 3)) (fun k => by simp [digits_Parse.j4]) (Ev.now _)

theorem j2_ev (low : Bool) (t : List UInt8) (bad : Bool) (hl : t.length ≤ 4611686018427387904) (hb : bad = badD low t) : Ev (fun k => digits_Parse.j2 k low (mk t) bad) (parseT low t) := by
  unfold parseT
  rw [← hb]
  cases bad with
  | true => exact Ev.step (f := fun _ => some (0, 3)) (fun k => by simp [digits_Parse.j2]) (Ev.now _)
  | false => exact Ev.step (f := fun k => digits_Parse.l0 k low (mk ([] ++ t)) 0 false (([] : List UInt8).length : Int)) (fun k => by simp [digits_Parse.j2]) (parse_loop low t [] 0 false 0 hl (by simp) (by simp))

theorem j1_ev (low : Bool) (t : List UInt8) (hl : t.length ≤ 4611686018427387904) : Ev (fun k => digits_Parse.j1 k low (mk t)) (parseT low t) := by
  have key : ∀ bad, bad = badD low t → Ev (fun k => digits_Parse.j2 k low (mk t) bad) (parseT low t) := fun bad => j2_ev low t bad hl
  cases t with
  | nil => exact Ev.step (f := fun k => digits_Parse.j2 k low (mk []) true) (fun k => by simp [digits_Parse.j1, mk_size]) (key true (by simp [badD]))
  | cons c t =>
    have hb := bt_head c t
    refine Ev.step (f := fun k => if (((c :: t).length : Nat) : Int) > 1 then (if (c.toNat : Int) = 48 then digits_Parse.j2 k low (mk (c :: t)) true else if low = true then digits_Parse.j2 k low (mk (c :: t)) ((c :: t) == [48]) else digits_Parse.j2 k low (mk (c :: t)) false) else if low = true then digits_Parse.j2 k low (mk (c :: t)) ((c :: t) == [48]) else digits_Parse.j2 k low (mk (c :: t)) false) (fun k => by
      simp only [digits_Parse.j1, mk_size, mk_toList, hb]
      rw [if_neg (by simp; omega)]
      by_cases h1 : (((c :: t).length : Nat) : Int) > 1
      · rw [if_pos h1, if_pos h1, if_pos (by omega)]
      · rw [if_neg h1, if_neg h1]) ?_
    have hc48 : (c.toNat : Int) = 48 ↔ c = 48 := by
      constructor
      · intro h; apply UInt8.toNat_inj.1; simpa using (by omega : c.toNat = 48)
      · rintro rfl; rfl
    refine ev_if (fun h1 => ev_if (fun h2 => key _ ?_) fun h2 => ?_) fun h1 => ?_
    · have h3 := hc48.1 h2
      have h4 : 1 < (c :: t).length := by omega
      simp [badD, h3] at h4 ⊢
      exact .inl (by omega)
    · have h3 : ¬ c = 48 := fun h => h2 (hc48.2 h)
      cases low with
      | true => exact ev_pos rfl (key _ (by simp [badD, h3]))
      | false => exact ev_neg (by simp) (key _ (by simp [badD, h3]))
    · have h4 : t = [] := by
        cases t with
        | nil => rfl
        | cons => simp at h1; omega
      subst h4
      cases low with
      | true => exact ev_pos rfl (key _ (by simp [badD]))
      | false => exact ev_neg (by simp) (key _ (by simp [badD]))

theorem parse_ev (l : List UInt8) (hl : l.length ≤ 4611686018427387904) : Ev (fun k => digits_Parse.f k (mk l)) (parseL l) := by
  unfold digits_Parse.f
  have hj0 : ∀ low, (low = true → l.head? = some 45) → (low = false → l.head? ≠ some 45) → Ev (fun k => digits_Parse.j0 k (mk l) low) (parseL l) := by
    intro low h1 h2
    cases low with
    | true =>
      cases l with
      | nil => simp at h1
      | cons c t =>
        refine Ev.step (f := fun k => digits_Parse.j1 k true (mk t)) (fun k => ?_) ?_
        · simp only [digits_Parse.j0, mk_from, if_true]
          rw [if_pos (by rw [mk_size]; simp; omega)]
          rfl
        · have e : parseL (c :: t) = parseT true t := by unfold parseL; rw [if_pos (h1 rfl)]; rfl
          rw [e]
          exact j1_ev true t (by simp at hl; omega)
    | false =>
      refine Ev.step (f := fun k => digits_Parse.j1 k false (mk l)) (fun k => by simp [digits_Parse.j0]) ?_
      have e : parseL l = parseT false l := by unfold parseL; rw [if_neg (h2 rfl)]
      rw [e]
      exact j1_ev false l hl
  cases l with
  | nil => exact ev_neg (by rw [mk_size]; simp) (hj0 false (by simp) (by simp))
  | cons c t =>
    refine ev_pos (by rw [mk_size]; simp) (ev_pos (by rw [mk_size]; simp) ?_)
    rw [bt_head]
    have hc45 : ((c.toNat : Int) == 45) = true ↔ c = 45 := by
      rw [beq_iff_eq]
      constructor
      · intro h; apply UInt8.toNat_inj.1; simpa using (by omega : c.toNat = 45)
      · rintro rfl; rfl
    refine hj0 _ (fun h => by simp [hc45.1 h]) (fun h h' => ?_)
    have : c = 45 := by simpa using h'
    rw [hc45.2 this] at h
    cases h


/-! ### pd and valD -/
theorem head_app {l : List UInt8} (m : List UInt8) (h : l ≠ []) : (l ++ m).head? = l.head? := by
  cases l with
  | nil => exact absurd rfl h
  | cons => rfl
theorem dig_nat (d : Nat) (h : d < 10) : (UInt8.ofNat (48 + d)).toNat = 48 + d := by
  rw [UInt8.toNat_ofNat']; omega
theorem pd_isD (n : Nat) : (pd n).all isD = true := by
  induction n using Nat.strongRecOn with
  | _ n ih =>
    by_cases h : n = 0
    · subst h; rw [pd_zero]; rfl
    · rw [pd_pos h, List.all_append, ih (n / 10) (by omega)]
      have : isD (UInt8.ofNat (48 + n % 10)) = true := by
        rw [isD_iff, dig_nat _ (Nat.mod_lt _ (by omega))]; omega
      rw [List.all_cons, this]; rfl
theorem valD_pd (n : Nat) : valD 0 (pd n) = n := by
  induction n using Nat.strongRecOn with
  | _ n ih =>
    by_cases h : n = 0
    · subst h; rw [pd_zero]; rfl
    · rw [pd_pos h, valD_append, ih (n / 10) (by omega)]
      show vn (n / 10) _ = n
      unfold vn
      rw [dig_nat _ (Nat.mod_lt _ (by omega))]
      omega
theorem pd_head (n : Nat) : (pd n).head? ≠ some 48 := by
  induction n using Nat.strongRecOn with
  | _ n ih =>
    by_cases h : n = 0
    · subst h; rw [pd_zero]; simp
    · rw [pd_pos h]
      by_cases h2 : n / 10 = 0
      · rw [h2, pd_zero]
        intro hh
        have h3 : UInt8.ofNat (48 + n % 10) = 48 := by simpa using hh
        have h4 := congrArg UInt8.toNat h3
        rw [dig_nat _ (Nat.mod_lt _ (by omega))] at h4
        have : (48 : UInt8).toNat = 48 := rfl
        omega
      · rw [head_app _ (pd_ne_nil h2)]
        exact ih (n / 10) (by omega)

theorem isD_of (c : UInt8) (h : isD c = true) : c = UInt8.ofNat (48 + (c.toNat - 48)) := by
  obtain ⟨h1, h2⟩ := (isD_iff c).1 h
  apply UInt8.toNat_inj.1
  rw [dig_nat _ (by omega)]
  omega

theorem pd_valD : ∀ (m : Nat) (t : List UInt8), t.length = m → t.all isD = true → t.head? ≠ some 48 → pd (valD 0 t) = t := by
  intro m
  induction m with
  | zero => intro t hl _ _; rw [List.length_eq_zero_iff.1 hl]; exact pd_zero
  | succ m ih =>
    intro t hl hd hh
    obtain ⟨t', c, rfl⟩ : ∃ t' c, t = t' ++ [c] := by
      rcases List.eq_nil_or_concat t with h | ⟨t', c, h⟩
      · subst h; simp at hl
      · exact ⟨t', c, by simpa using h⟩
    simp only [List.length_append, List.length_singleton] at hl
    rw [List.all_append, Bool.and_eq_true] at hd
    have hc : isD c = true := by simpa using hd.2
    obtain ⟨h1, h2⟩ := (isD_iff c).1 hc
    have hv : valD 0 (t' ++ [c]) = valD 0 t' * 10 + (c.toNat - 48) := by rw [valD_append]; rfl
    rcases List.eq_nil_or_concat t' with h | ⟨t2, c2, h⟩
    · subst h
      have hne : c.toNat ≠ 48 := by
        intro h
        apply hh
        have : c = 48 := UInt8.toNat_inj.1 (by rw [h]; rfl)
        simp [this]
      rw [hv]
      have h0 : valD 0 ([] : List UInt8) = 0 := rfl
      rw [h0, pd_pos (by omega)]
      have e1 : (0 * 10 + (c.toNat - 48)) / 10 = 0 := by omega
      have e2 : (0 * 10 + (c.toNat - 48)) % 10 = c.toNat - 48 := by omega
      rw [e1, e2, pd_zero, ← isD_of c hc]
    · have hne : t' ≠ [] := by rw [h]; simp
      have ih' := ih t' (by omega) hd.1 (by rwa [head_app _ hne] at hh)
      have hv0 : valD 0 t' ≠ 0 := by
        intro h0
        rw [h0, pd_zero] at ih'
        exact hne ih'.symm
      rw [hv, pd_pos (by omega)]
      have e1 : (valD 0 t' * 10 + (c.toNat - 48)) / 10 = valD 0 t' := by omega
      have e2 : (valD 0 t' * 10 + (c.toNat - 48)) % 10 = c.toNat - 48 := by omega
      rw [e1, e2, ih', ← isD_of c hc]

theorem pd_no45 (n : Nat) : (pd n).head? ≠ some 45 := by
  intro h
  have h1 := pd_isD n
  cases hp : pd n with
  | nil => rw [hp] at h; simp at h
  | cons c t =>
    rw [hp] at h h1
    have : c = 45 := by simpa using h
    subst this
    simp [isD] at h1

theorem bad_pd (low : Bool) (n : Nat) (h : n ≠ 0) : badD low (pd n) = false := by
  have h1 := pd_ne_nil h
  have h2 := pd_head n
  have h3 : pd n ≠ [48] := fun e => h2 (by rw [e]; rfl)
  unfold badD
  have e1 : (pd n).isEmpty = false := by simpa using h1
  have e2 : ((pd n).head? == some 48) = false := by simpa using h2
  have e3 : (pd n == [48]) = false := by simpa using h3
  rw [e1, e2, e3]
  simp

/-- There. -/
theorem parse_digs (n : Int) (h0 : -9223372036854775808 ≤ n) (h1 : n ≤ 9223372036854775807) : parseL (digs n) = (n, 0) := by
  unfold digs
  by_cases hz : n = 0
  · subst hz; rfl
  · rw [if_neg hz]
    by_cases hn : n < 0
    · rw [if_pos hn]
      unfold parseL
      rw [if_pos (by rfl), List.tail_cons]
      unfold parseT
      rw [if_neg (by rw [bad_pd _ _ (by omega)]; simp)]
      unfold finish fin
      rw [if_pos (pd_isD _), valD_pd, if_neg (by rintro (e | ⟨e, _⟩) <;> first | omega | cases e), if_pos rfl]
      congr 1; omega
    · rw [if_neg hn]
      unfold parseL
      rw [if_neg (pd_no45 _)]
      unfold parseT
      rw [if_neg (by rw [bad_pd _ _ (by omega)]; simp)]
      unfold finish fin
      rw [if_pos (pd_isD _), valD_pd, if_neg (by rintro (e | ⟨_, e⟩) <;> omega), if_neg (by simp)]
      congr 1; omega

theorem parseT_back (low : Bool) (t : List UInt8) (k : Int) (h : parseT low t = (k, 0)) : (t = [48] ∧ low = false ∧ k = 0) ∨ (t ≠ [] ∧ k ≠ 0 ∧ pd k.natAbs = t ∧ (low = true → k < 0 ∧ -9223372036854775808 ≤ k) ∧ (low = false → 0 < k ∧ k ≤ 9223372036854775807)) := by
  unfold parseT at h
  by_cases hb : badD low t = true
  · rw [if_pos hb] at h; simp at h
  · rw [if_neg hb] at h
    unfold finish at h
    by_cases hd : t.all isD = true
    · rw [if_pos hd] at h
      simp only [badD, Bool.or_eq_true, Bool.and_eq_true, not_or, not_and, decide_eq_true_iff] at hb
      obtain ⟨⟨hb1, hb2⟩, hb3⟩ := hb
      have hne : t ≠ [] := by intro e; subst e; simp at hb1
      by_cases h48 : t.head? = some 48
      · have hlen : t.length = 1 := by
          have h2 : ¬ 1 < t.length := fun hl => hb2 hl (by simpa using h48)
          have : t.length ≠ 0 := fun e => hne (List.length_eq_zero_iff.1 e)
          omega
        have ht : t = [48] := by
          match t, hlen with
          | [c], _ => simpa using h48
        subst ht
        cases low with
        | true => exact absurd (by rfl) (hb3 rfl)
        | false =>
          left
          refine ⟨rfl, rfl, ?_⟩
          have : fin false (valD 0 [48]) = (0, 0) := by decide +kernel
          rw [this] at h
          simpa using h.symm
      · right
        have hp := pd_valD _ t rfl hd h48
        have hv0 : valD 0 t ≠ 0 := fun e => by rw [e, pd_zero] at hp; exact hne hp.symm
        unfold fin at h
        by_cases hf : 9223372036854775808 < valD 0 t ∨ low = false ∧ valD 0 t = 9223372036854775808
        · rw [if_pos hf] at h; simp at h
        · rw [if_neg hf] at h
          have hf1 : ¬ 9223372036854775808 < valD 0 t := fun e => hf (.inl e)
          cases low with
          | true =>
            rw [if_pos rfl] at h
            have hk : k = -(valD 0 t : Int) := by simpa using (congrArg Prod.fst h).symm
            subst hk
            refine ⟨hne, by omega, ?_, fun _ => by omega, by simp⟩
            have : (-(valD 0 t : Int)).natAbs = valD 0 t := by omega
            rw [this, hp]
          | false =>
            rw [if_neg (by simp)] at h
            have hf2 : valD 0 t ≠ 9223372036854775808 := fun e => hf (.inr ⟨rfl, e⟩)
            have hk : k = (valD 0 t : Int) := by simpa using (congrArg Prod.fst h).symm
            subst hk
            refine ⟨hne, by omega, ?_, by simp, fun _ => by omega⟩
            have : ((valD 0 t : Int)).natAbs = valD 0 t := by omega
            rw [this, hp]
    · rw [if_neg hd] at h; simp at h

/-- And back. -/
theorem digs_parse (l : List UInt8) (k : Int) (h : parseL l = (k, 0)) : digs k = l ∧ -9223372036854775808 ≤ k ∧ k ≤ 9223372036854775807 := by
  unfold parseL at h
  by_cases h45 : l.head? = some 45
  · rw [if_pos h45] at h
    have hl : l = 45 :: l.tail := by
      cases l with
      | nil => simp at h45
      | cons c t => have : c = 45 := by simpa using h45
                    subst this; rfl
    rcases parseT_back _ _ _ h with ⟨_, h2, _⟩ | ⟨_, h2, h3, h4, _⟩
    · cases h2
    · obtain ⟨h5, h6⟩ := h4 rfl
      refine ⟨?_, h6, by omega⟩
      unfold digs
      rw [if_neg h2, if_pos h5, h3, ← hl]
  · rw [if_neg h45] at h
    rcases parseT_back _ _ _ h with ⟨h1, _, h2⟩ | ⟨_, h2, h3, _, h4⟩
    · subst h1; subst h2; exact ⟨rfl, by omega, by omega⟩
    · obtain ⟨h5, h6⟩ := h4 rfl
      refine ⟨?_, by omega, h6⟩
      unfold digs
      rw [if_neg h2, if_neg (by omega), h3]

theorem print_some (a : Int) (h0 : -9223372036854775808 ≤ a) (h1 : a ≤ 9223372036854775807) : digits_Print.f a = some (mk (digs a)) := by
  unfold digits_Print.f; rw [if_pos h0, if_pos h1]
theorem small_some (a : Int) (h0 : -9223372036854775808 ≤ a) (h1 : a ≤ 9223372036854775807) : digits_Small.f a = some (mk (digs a)) := by
  unfold digits_Small.f; rw [print_some a h0 h1]; rfl
theorem index_ev (l : List UInt8) (hl : l.length ≤ 4611686018427387904) (most : Int) : Ev (fun k => digits_Index.f k (mk l) most) (if (parseL l).2 = 0 then (if (parseL l).1 < 0 ∨ (parseL l).1 > most then (0, 18) else ((parseL l).1, 0)) else (0, (parseL l).2)) := by
  unfold digits_Index.f
  refine Ev.bind (f := fun _ bt => if bt.2 = 0 then (if bt.1 < 0 then some (0, 18) else if bt.1 > most then some (0, 18) else some (bt.1, 0)) else some (0, bt.2)) (parse_ev l hl) ?_
  refine ev_if (fun h => ?_) (fun h => ?_)
  · rw [if_pos h]
    refine ev_if (fun h1 => ?_) (fun h1 => ev_if (fun h2 => ?_) (fun h2 => ?_))
    · rw [if_pos (.inl h1)]; exact Ev.now _
    · rw [if_pos (.inr h2)]; exact Ev.now _
    · rw [if_neg (by omega)]; exact Ev.now _
  · rw [if_neg h]; exact Ev.now _

theorem i64_bounds {a : Int} (h : (Lit.int .i64 a).wf = true) : -9223372036854775808 ≤ a ∧ a ≤ 9223372036854775807 := by
  simpa [Lit.wf, IntKind.min, IntKind.max, IntKind.signed, IntKind.bits] using h

end Go.Proofs.Ytkgjbdbhpohkiaa.DigLaw
end
