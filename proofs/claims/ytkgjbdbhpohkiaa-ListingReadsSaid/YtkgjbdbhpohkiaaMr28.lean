import Derived.Test.YtkgjbdbhpohkiaaMr2
import Derived.Test.YtkgjbdbhpohkiaaMr27
import Derived.Test.YtkgjbdbhpohkiaaMr5
import Derived.Test.YtkgjbdbhpohkiaaMr25
import Derived.Test.YtkgjbdbhpohkiaaMr22
import Derived.Test.YtkgjbdbhpohkiaaMr19
-- from YtkgjbdbhpohkiaaPLix4
section
namespace Go.Proofs.Ytkgjbdbhpohkiaa.PLi
open Go.RowKit Go.Proofs.YtkgjbdbhpohkiaaW.PrintWords Go.Proofs.YtkgjbdbhpohkiaaW.PrintLast Go.Proofs.YtkgjbdbhpohkiaaW.PrintMore Go.Proofs.Ytkgjbdbhpohkiaa.Zip
attribute [local go_sem] max2_int min2_int max_two min_two max_three min_three max_four min_four   -- for this text's walks alone
set_option linter.unusedVariables false
set_option linter.unusedSimpArgs false
def r33_Check.l0 : Nat → List (S33) → Int → Option (Int × Int)
 | 0, _, _ => none
 | k + 1, x0, x3 => if x3 < (x0.length : Int) then (if 0 ≤ x3 then ((r33_one.f k ((rd_T33 x0 x3).f0) ((rd_T33 x0 x3).f1) ((rd_T33 x0 x3).f2) (x0.length : Int)).bind fun t116 => (if t116 = 0 then (r33_Check.l0 k x0 (wrap64 (x3 + 1))) else (some (t116, x3)))) else (none)) else (some (0, 0))
def r33_Check.f (k : Nat) (l0 : List (S33)) : Option (Int × Int) := if (l0.length : Int) > 32 then (some (6, (l0.length : Int))) else (r33_Check.l0 k l0 0)
set_option maxHeartbeats 8000000 in
set_option maxRecDepth 100000 in
theorem r33_Check.calls (k : Nat) (A0 : Option Addr) (c0 : Nat) (l0 : List (S33)) (r1 : Int) (r2 : Int) (w : World) (hr0 : Kd.C k33 w A0 l0.length l0) (hc0 : l0.length ≤ c0) (h : r33_Check.f k l0 = some (r1, r2)) :
  Calls Try.prog 8 #[.slice A0 l0.length c0] w fun e w' => e = .returned (.agg #[.int .i64 r1, .int .i64 r2]) ∧ Below w.heap.size w w' := by
 have hu26 := Try.underlying26
 have hu33 := Try.underlying33
 have HR0 := Aside0.mk hr0
 have HC0 := Aside0.mk hc0
 clear hr0 hc0
 have HB := Aside0.mk (Below.refl w.heap.size w)
 have H : (if (l0.length : Int) > 32 then (some (6, (l0.length : Int))) else (r33_Check.l0 k l0 0)) = some (r1, r2) := h
 clear h
 by_cases c2 : (l0.length : Int) > 32
 ·rw [if_pos c2] at H
  have c2b0 : decide (32 < (l0.length : Int)) = true := decide_eq_true c2
  have c2b1 : decide (32 < l0.length) = true := decide_eq_true (by omega)
  clear c2
  simp only [Option.some.injEq, Prod.mk.injEq] at H
  obtain ⟨rfl, rfl⟩ := H
  go_enter Try.func8, Try.ntmps8
  go_wp2_with (first | ((with_reducible refine gate_dst (N := 2) rfl ?_); refine box_event ?hg (N := 2) ?hd (cs := #[.int .i64 0, .int .i64 0]) (t := 26) ?hr ?_; (case hd => rfl); (case hg => rfl); (case hr => first | (go_simp; done) | (go_simp; rfl)); intro gb114 hg w3 hbox hb; have n0_ := Aside0.mk (below_step (zB HB.out) hb); have n1_ := Aside0.mk (hbox); have n2_ := Aside0.mk ((by rw [hg]; exact (below_size (zB HB.out)) : w.heap.size ≤ gb114)); have n3_ := Aside0.mk ((by rw [hg]; exact (below_size (zB HB.out)) : w.heap.size ≤ gb114)); clear HB; have HB := n0_; have BK114 := n1_; have GW114 := n2_; have GE114 := n3_; clear n0_ n1_ n2_ n3_; clear hb hbox hg; have hcz4_0 : w3.cell? ⟨gb114, 0, none⟩ = some (.int .i64 0) := (blk_cell BK114.out 0).trans rfl; have hcz4_1 : w3.cell? ⟨gb114, 1, none⟩ = some (.int .i64 0) := (blk_cell BK114.out 1).trans rfl; have hfz4_0 := blk_frozen BK114.out 0; have hfz4_1 := blk_frozen BK114.out 1))
  refine bodyPost_ret (results_cell_row rfl _ _ gb114 26 #[.int .i64 6, .int .i64 (l0.length : Int)] (0, 0) _ rfl (by (with_reducible repeat (first | refine blk_drewN ?_ _ | refine blk_drew ?_ | refine blk_alloc ?_ _)); refine blk_put (cs := #[.int .i64 6, .int .i64 0]) ?_ 1 _ rfl; (with_reducible repeat (first | refine blk_drewN ?_ _ | refine blk_drew ?_ | refine blk_alloc ?_ _)); refine blk_put (cs := #[.int .i64 0, .int .i64 0]) ?_ 0 _ rfl; (with_reducible repeat (first | refine blk_drewN ?_ _ | refine blk_drew ?_ | refine blk_alloc ?_ _)); exact BK114.out) Try.underlying26 rfl (by kernel_rfl)) rfl ?_
  exact ⟨zF, zC HB.out GE114.out⟩
 ·rw [if_neg c2] at H
  have c2b0 : decide (32 < (l0.length : Int)) = false := decide_eq_false c2
  have c2b1 : decide (32 < l0.length) = false := decide_eq_false (by omega)
  clear c2
  have H' := Aside0.mk H
  clear H
  go_enter Try.func8, Try.ntmps8
  go_wp2_with (first | ((with_reducible refine gate_dst (N := 2) rfl ?_); refine box_event ?hg (N := 2) ?hd (cs := #[.int .i64 0, .int .i64 0]) (t := 26) ?hr ?_; (case hd => rfl); (case hg => rfl); (case hr => first | (go_simp; done) | (go_simp; rfl)); intro gb114 hg w5 hbox hb; have n0_ := Aside0.mk (below_step (zB HB.out) hb); have n1_ := Aside0.mk (hbox); have n2_ := Aside0.mk ((by rw [hg]; exact (below_size (zB HB.out)) : w.heap.size ≤ gb114)); have n3_ := Aside0.mk ((by rw [hg]; exact (below_size (zB HB.out)) : w.heap.size ≤ gb114)); clear HB; have HB := n0_; have BK114 := n1_; have GW114 := n2_; have GE114 := n3_; clear n0_ n1_ n2_ n3_; clear hb hbox hg))
  go_loopg [3] k (fun kq v3 w' => ∃ (x3_1 : Int) (x115000_1 : Int) (x115001_1 : Int), v3 = .int .i64 x3_1 ∧ Aside0 (r33_Check.l0 kq l0 x3_1 = some (r1, r2)) ∧ Aside0 (kq ≤ k) ∧ Aside0 (w'.heap[gb114]? = some (.cells #[.int .i64 x115000_1, .int .i64 x115001_1] 26 (0, 0))) ∧ Aside0 (Below w.heap.size w w'))
  case atStart => exact ⟨(0), (0), (0), (by first | rfl | (simp; done) | (simp [*]; done)), H', ⟨Nat.le_refl _⟩, ⟨zK BK114.out⟩, ⟨zC HB.out GE114.out⟩⟩
  case round =>
   clear H'
   try clear c2
   try clear c2b0
   try clear c2b1
   try clear p2
   try clear hcz4_0
   try clear hcz4_1
   try clear hfz4_0
   try clear hfz4_1
   obtain ⟨x3_1, x115000_1, x115001_1, rfl, HA, HK1, BK114, HB⟩ := hrel
   cases gk with
   | zero => exact absurd HA.out (by simp [r33_Check.l0])
   | succ k1 =>
    have H := HA.out
    clear HA
    simp only [r33_Check.l0] at H
    by_cases c6 : x3_1 < (l0.length : Int)
    ·rw [if_pos c6] at H
     have c6b0 : decide (x3_1 < (l0.length : Int)) = true := decide_eq_true c6
     clear c6
     by_cases c7 : 0 ≤ x3_1
     ·rw [if_pos c7] at H
      have c7b0 : decide (0 ≤ x3_1) = true := decide_eq_true c7
      clear c7
      replace H := Option.bind_eq_some_iff.mp H
      obtain ⟨t116, A80, H⟩ := H
      replace H : (if t116 = 0 then (r33_Check.l0 k1 l0 (wrap64 (x3_1 + 1))) else (some (t116, x3_1))) = some (r1, r2) := H
      have A8 := Aside0.mk A80
      clear A80
      by_cases c9 : t116 = 0
      ·rw [if_pos c9] at H
       have c9b0 : (t116 == 0) = true := beq_iff_eq.mpr c9
       have c9b1 : (t116 != 0) = false := bne_eq_false_iff_eq.mpr c9
       clear c9
       have H' := Aside0.mk H
       clear H
       have p115 : 0 ≤ (x3_1 : Int) := of_decide_eq_true zS
       have q115 : x3_1 < (l0.length : Int) := of_decide_eq_true zS
       obtain ⟨ad115, A115_0, c115_0, A115_2, c115_2, e115, hx115_0, hx115_1, hx115_2, hl115_0, hi115_0, hl115_2, hi115_2⟩ := at_T33 HR0.out x3_1 p115 q115
       cases e115
       replace hx115_0 := (HB.out.cell (World.block_lt_of_cell? w _ hx115_0)).trans hx115_0
       replace hx115_1 := (HB.out.cell (World.block_lt_of_cell? w _ hx115_1)).trans hx115_1
       replace hx115_2 := (HB.out.cell (World.block_lt_of_cell? w _ hx115_2)).trans hx115_2
       have HR115_0 := Aside0.mk hi115_0
       have HC115_0 := Aside0.mk hl115_0
       clear hi115_0 hl115_0
       have HR115_2 := Aside0.mk hi115_2
       have HC115_2 := Aside0.mk hl115_2
       clear hi115_2 hl115_2
       replace p115 := eq_true p115
       replace q115 := eq_true q115
       go_wp2_with (first | ((with_reducible refine gate_callee (f := 20) rfl ?_); refine goesL_ (some 23) rfl rfl Try.func20 (by kernel_rfl) rfl #[.agg #[.slice A115_0 ((rd_T33 l0 x3_1).f0).length c115_0, .int .i64 ((rd_T33 l0 x3_1).f1), .slice A115_2 ((rd_T33 l0 x3_1).f2).length c115_2], .int .i64 (l0.length : Int)] rfl zA ?_; (with_reducible refine (r33_one.calls k1 _ _ ((rd_T33 l0 x3_1).f0) ((rd_T33 l0 x3_1).f1) _ _ ((rd_T33 l0 x3_1).f2) (l0.length : Int) t116 _ ?side1 ?side2 ?side3 ?side4 A8.out).mono ?_); (case side1 => repeat (first | exact (Kd.C_below HR115_0.out HB.out) | (with_reducible refine Kd.C_alloc ?_ _) | (with_reducible refine Kd.C_drewN ?_ _) | (with_reducible refine Kd.C_drew ?_))); (case side2 => exact HC115_0.out); (case side3 => repeat (first | exact (Kd.C_below HR115_2.out HB.out) | (with_reducible refine Kd.C_alloc ?_ _) | (with_reducible refine Kd.C_drewN ?_ _) | (with_reducible refine Kd.C_drew ?_))); (case side4 => exact HC115_2.out); rintro e w10 ⟨rfl, hb⟩; refine ⟨_, rfl, ?_⟩; have n0_ := Aside0.mk (blk_below (g := gb114) (o := .cells #[.int .i64 x115000_1, .int .i64 x115001_1] 26 (0, 0)) (zK BK114.out) hb); have n1_ := Aside0.mk (below_step (zC HB.out GE114.out) hb); clear BK114; clear HB; have BK114 := n0_; have HB := n1_; clear n0_ n1_; (try clear hb); (try clear hb2); (try clear hk); (try clear hi)))
       go_roundg k1
       case measure => have := HK1.out; omega
       case rel => exact ⟨(wrap64 (x3_1 + 1)), (x115000_1), (x115001_1), (by first | rfl | (simp; done) | (simp [*]; done)), H', ⟨by have := HK1.out; omega⟩, ⟨zK BK114.out⟩, ⟨zC HB.out GE114.out⟩⟩
      ·rw [if_neg c9] at H
       have c9b0 : (t116 == 0) = false := beq_eq_false_iff_ne.mpr c9
       have c9b1 : (t116 != 0) = true := bne_iff_ne.mpr c9
       simp only [Option.some.injEq, Prod.mk.injEq] at H
       obtain ⟨rfl, rfl⟩ := H
       have p115 : 0 ≤ (x3_1 : Int) := of_decide_eq_true zS
       have q115 : x3_1 < (l0.length : Int) := of_decide_eq_true zS
       obtain ⟨ad115, A115_0, c115_0, A115_2, c115_2, e115, hx115_0, hx115_1, hx115_2, hl115_0, hi115_0, hl115_2, hi115_2⟩ := at_T33 HR0.out x3_1 p115 q115
       cases e115
       replace hx115_0 := (HB.out.cell (World.block_lt_of_cell? w _ hx115_0)).trans hx115_0
       replace hx115_1 := (HB.out.cell (World.block_lt_of_cell? w _ hx115_1)).trans hx115_1
       replace hx115_2 := (HB.out.cell (World.block_lt_of_cell? w _ hx115_2)).trans hx115_2
       have HR115_0 := Aside0.mk hi115_0
       have HC115_0 := Aside0.mk hl115_0
       clear hi115_0 hl115_0
       have HR115_2 := Aside0.mk hi115_2
       have HC115_2 := Aside0.mk hl115_2
       clear hi115_2 hl115_2
       replace p115 := eq_true p115
       replace q115 := eq_true q115
       go_wp2_with (first | ((with_reducible refine gate_callee (f := 20) rfl ?_); refine goesL_ (some 23) rfl rfl Try.func20 (by kernel_rfl) rfl #[.agg #[.slice A115_0 ((rd_T33 l0 x3_1).f0).length c115_0, .int .i64 ((rd_T33 l0 x3_1).f1), .slice A115_2 ((rd_T33 l0 x3_1).f2).length c115_2], .int .i64 (l0.length : Int)] rfl zA ?_; (with_reducible refine (r33_one.calls k1 _ _ ((rd_T33 l0 x3_1).f0) ((rd_T33 l0 x3_1).f1) _ _ ((rd_T33 l0 x3_1).f2) (l0.length : Int) t116 _ ?side1 ?side2 ?side3 ?side4 A8.out).mono ?_); (case side1 => repeat (first | exact (Kd.C_below HR115_0.out HB.out) | (with_reducible refine Kd.C_alloc ?_ _) | (with_reducible refine Kd.C_drewN ?_ _) | (with_reducible refine Kd.C_drew ?_))); (case side2 => exact HC115_0.out); (case side3 => repeat (first | exact (Kd.C_below HR115_2.out HB.out) | (with_reducible refine Kd.C_alloc ?_ _) | (with_reducible refine Kd.C_drewN ?_ _) | (with_reducible refine Kd.C_drew ?_))); (case side4 => exact HC115_2.out); rintro e w11 ⟨rfl, hb⟩; refine ⟨_, rfl, ?_⟩; have n0_ := Aside0.mk (blk_below (g := gb114) (o := .cells #[.int .i64 x115000_1, .int .i64 x115001_1] 26 (0, 0)) (zK BK114.out) hb); have n1_ := Aside0.mk (below_step (zC HB.out GE114.out) hb); clear BK114; clear HB; have BK114 := n0_; have HB := n1_; clear n0_ n1_; (try clear hb); (try clear hb2); (try clear hk); (try clear hi); have hcz12_0 : w11.cell? ⟨gb114, 0, none⟩ = some (.int .i64 x115000_1) := (blk_cell BK114.out 0).trans rfl; have hcz12_1 : w11.cell? ⟨gb114, 1, none⟩ = some (.int .i64 x115001_1) := (blk_cell BK114.out 1).trans rfl; have hfz12_0 := blk_frozen BK114.out 0; have hfz12_1 := blk_frozen BK114.out 1))
       refine bodyPost_ret (results_cell_row rfl _ _ gb114 26 #[.int .i64 t116, .int .i64 x3_1] (0, 0) _ rfl (by (with_reducible repeat (first | refine blk_drewN ?_ _ | refine blk_drew ?_ | refine blk_alloc ?_ _)); refine blk_put (cs := #[.int .i64 t116, .int .i64 x115001_1]) ?_ 1 _ rfl; (with_reducible repeat (first | refine blk_drewN ?_ _ | refine blk_drew ?_ | refine blk_alloc ?_ _)); refine blk_put (cs := #[.int .i64 x115000_1, .int .i64 x115001_1]) ?_ 0 _ rfl; (with_reducible repeat (first | refine blk_drewN ?_ _ | refine blk_drew ?_ | refine blk_alloc ?_ _)); exact BK114.out) Try.underlying26 rfl (by kernel_rfl)) rfl ?_
       exact ⟨zF, zC HB.out GE114.out⟩
     ·rw [if_neg c7] at H
      exact absurd H (by simp)
    ·rw [if_neg c6] at H
     have c6b0 : decide (x3_1 < (l0.length : Int)) = false := decide_eq_false c6
     clear c6
     simp only [Option.some.injEq, Prod.mk.injEq] at H
     obtain ⟨rfl, rfl⟩ := H
     have hcz13_0 : wr.cell? ⟨gb114, 0, none⟩ = some (.int .i64 x115000_1) := (blk_cell BK114.out 0).trans rfl
     have hcz13_1 : wr.cell? ⟨gb114, 1, none⟩ = some (.int .i64 x115001_1) := (blk_cell BK114.out 1).trans rfl
     have hfz13_0 := blk_frozen BK114.out 0
     have hfz13_1 := blk_frozen BK114.out 1
     go_wp2
     refine bodyPost_ret (results_cell_row rfl _ _ gb114 26 #[.int .i64 0, .int .i64 0] (0, 0) _ rfl (by (with_reducible repeat (first | refine blk_drewN ?_ _ | refine blk_drew ?_ | refine blk_alloc ?_ _)); refine blk_put (cs := #[.int .i64 0, .int .i64 x115001_1]) ?_ 1 _ rfl; (with_reducible repeat (first | refine blk_drewN ?_ _ | refine blk_drew ?_ | refine blk_alloc ?_ _)); refine blk_put (cs := #[.int .i64 x115000_1, .int .i64 x115001_1]) ?_ 0 _ rfl; (with_reducible repeat (first | refine blk_drewN ?_ _ | refine blk_drew ?_ | refine blk_alloc ?_ _)); exact BK114.out) Try.underlying26 rfl (by kernel_rfl)) rfl ?_
     exact ⟨zF, zC HB.out GE114.out⟩
end Go.Proofs.Ytkgjbdbhpohkiaa.PLi
end
-- from YtkgjbdbhpohkiaaHRefRead
section
namespace Go.Proofs.Ytkgjbdbhpohkiaa.PLi
open Go.RowKit Go.Proofs.YtkgjbdbhpohkiaaW.PrintWords Go.Proofs.YtkgjbdbhpohkiaaW.PrintLast Go.Proofs.YtkgjbdbhpohkiaaW.PrintMore Go.Proofs.Ytkgjbdbhpohkiaa.Str
set_option linter.unusedVariables false
set_option linter.unusedSimpArgs false
def reLoop : Nat → List (S84) → List (S33) → Int → Int → Int → Int → Option (List (S33) × Int × Int × Int × Int)
 | 0, _, _, _, _, _, _ => none
 | k + 1, tl, acc, s1, s2, s3, s4 => if s3 = 0 ∧ s1 < (tl.length : Int) then (r37_Reader_body.f k tl s1 s2 s3 s4).bind fun b => if acc.length < 1000000000000 then reLoop k tl (acc ++ [⟨b.1, b.2.1, b.2.2.1⟩]) b.2.2.2.1 b.2.2.2.2.1 b.2.2.2.2.2.1 b.2.2.2.2.2.2 else none
  else some (acc, s1, s2, s3, s4)
def r37_Read.f (k : Nat) (a : ByteArray) : Option (List (S33) × Int × Int) :=
 (r02_Split.f k a).bind fun t => if t.2.1 = 0 then (reLoop k t.1 [] 0 (a.size : Int) 0 0).bind fun o => if o.2.2.2.1 = 0 then (r33_Check.f k o.1).bind fun e => if e.1 = 0 then some (o.1, 0, 0) else some ([], e.1, wrap64 ((a.size : Int) + e.2)) else some ([], o.2.2.2.1, o.2.2.2.2) else some ([], t.2.1, t.2.2)
structure ReAt (g b2 : Nat) (tl : List (S84)) (acc : List (S33)) (v : Value) (s1 s2 s3 s4 : Int) (w w0 w' : World) : Prop where
 i : IsS71 w0 w' g tl s1 s2 s3 s4
 b : Below w0.heap.size w0 w'
 wb : Below w.heap.size w w0
 lt : b2 < w0.heap.size
 ge : w.heap.size ≤ b2
 z0 : w0.heap[b2]? = some (.cells #[.int .i64 0, .int .i64 0] 26 (0, 0))
 row : Kd.R k33 33 w' w0.heap.size (fun _ => True) v acc
section
variable {g b2 : Nat} {tl : List (S84)} {acc : List (S33)} {v : Value} {s1 s2 s3 s4 r1 r2 r3 r4 : Int} {w w0 w1 w2 : World}
theorem ReAt.zero (h : ReAt g b2 tl acc v s1 s2 s3 s4 w w0 w1) : w1.heap[b2]? = some (.cells #[.int .i64 0, .int .i64 0] 26 (0, 0)) := (h.b.block b2 h.lt).trans h.z0
theorem ReAt.bel (h : ReAt g b2 tl acc v s1 s2 s3 s4 w w0 w1) : Below w.heap.size w w1 := below_step h.wb h.b
theorem ReAt.call (h : ReAt g b2 tl acc v s1 s2 s3 s4 w w0 w1) (hi : IsS71 w0 w2 g tl r1 r2 r3 r4) (hb : Below w0.heap.size w0 w2) (hk : KeepBut w1 w2 g none) : ReAt g b2 tl acc v r1 r2 r3 r4 w w0 w2 := by
 obtain ⟨A0, c0, hG, -, -⟩ := h.i
 exact ⟨hi, hb, h.wb, h.lt, h.ge, h.z0, rc_keep h.row hG (by decide) hk⟩
theorem ReAt.below (h : ReAt g b2 tl acc v s1 s2 s3 s4 w w0 w1) (hb : Below w1.heap.size w1 w2) : ReAt g b2 tl acc v s1 s2 s3 s4 w w0 w2 :=
 ⟨h.i.below hb, below_step h.b hb, h.wb, h.lt, h.ge, h.z0, Kd.R_below h.row hb⟩
theorem ReAt.app (h : ReAt g b2 tl acc v s1 s2 s3 s4 w w0 w1) {acc' : List (S33)} {v1 : Value} (hr : Kd.R k33 33 w2 w0.heap.size (fun _ => True) v1 acc') (hg : w1.grownBy w2 v.ownBlock) : ReAt g b2 tl acc' v1 s1 s2 s3 s4 w w0 w2 := by
 obtain ⟨A0, c0, hG, -, -⟩ := h.i
 have ng : some g ≠ v.ownBlock := Kd.R_ne h.row hG (by decide)
 exact ⟨h.i.grown hg ng, pw_below_grown h.b v.ownBlock h.b.size hg (fun k e => Kd.R_base h.row k e), h.wb, h.lt, h.ge, h.z0, hr⟩
end
set_option maxHeartbeats 8000000 in
set_option maxRecDepth 100000 in
theorem r37_Read.calls (k : Nat) (a : ByteArray) (r1 : List (S33)) (r2 r3 : Int) (w : World) (h : r37_Read.f k a = some (r1, r2, r3)) :
  Calls Try.prog 17 #[.string a] w fun e w' => ∃ v0_ : Value, e = .returned (.tuple #[v0_, .agg #[.int .i64 r2, .int .i64 r3]]) ∧ Kd.R k33 33 w' w.heap.size (fun _ => True) v0_ r1 ∧ Below w.heap.size w w' := by
 have hu33 := Try.underlying33
 have hu26 := Try.underlying26
 have hu67 := Try.underlying71
 unfold r37_Read.f at h
 replace h := Option.bind_eq_some_iff.mp h
 obtain ⟨⟨tl, t2, t3⟩, hs, h⟩ := h
 have HS := Aside0.mk hs
 have HH := Aside0.mk h
 clear hs h
 go_enter Try.func17, Try.ntmps17
 have HBZ := Aside0.mk (blk_new w (.cells #[.int .i64 0, .int .i64 0] 26))
 have HB := Aside0.mk (below_alloc (Below.refl w.heap.size w) (.cells #[.int .i64 0, .int .i64 0] 26))
 go_upto_region 1 with (fail)
 generalize w.alloc (.cells #[.int .i64 0, .int .i64 0] 26) = W0 at HBZ HB ⊢
 go_wp2_with fail
 refine (r02_Split.calls k a tl t2 t3 _ HS.out).mono ?_
 rintro e w1 ⟨v0, rfl, hr1, hb1⟩
 obtain ⟨A0, c0, e0, hl0, hC0⟩ := Kd.R_reads hr1
 subst e0
 have hbx := below_alloc (Below.refl w1.heap.size w1) (.cells #[.int .i64 t2, .int .i64 t3] 26)
 have HBE := Aside0.mk (blk_new w1 (.cells #[.int .i64 t2, .int .i64 t3] 26))
 have HBZ1 := Aside0.mk (blk_below (blk_below HBZ.out hb1) hbx)
 have HB1 := Aside0.mk (below_step (below_step HB.out hb1) hbx)
 have HC := Aside0.mk (Kd.C_below hC0 hbx)
 have HLC := Aside0.mk hl0
 have HLT := Aside0.mk (Nat.ne_of_lt (blk_lt (blk_below HBZ.out hb1)))
 clear hr1 hb1 hl0 hC0 hbx
 go_upto_if 17 with (fail)
 (try simp only [Act.put, List.setIfInBounds_toArray, List.set_cons_zero, List.set_cons_succ])
 generalize w1.alloc (.cells #[.int .i64 t2, .int .i64 t3] 26) = W1 at HBE HBZ1 HB1 HC ⊢
 have h := HH.out
 have k0_ := blk_cell HBE.out 0
 have k1_ := blk_cell HBE.out 1
 by_cases ct : t2 = 0
 rotate_left
 ·rw [if_neg ct] at h
  have ct0 : (t2 == 0) = false := beq_eq_false_iff_ne.mpr ct
  have ct1 : (t2 != 0) = true := bne_iff_ne.mpr ct
  (first | rw [ct1] | (simp only [i64_w, i32_w]; rw [ct1]) | skip)
  simp only [Option.some.injEq, Prod.mk.injEq] at h
  obtain ⟨rfl, rfl, rfl⟩ := h
  clear ct
  go_upto_region 3 with (fail)
  have z0_ : W1.drew.cell? ⟨w.heap.size, 0, none⟩ = some (.int .i64 0) := (blk_cell HBZ1.out 0)
  have z1_ : W1.drew.cell? ⟨w.heap.size, 1, none⟩ = some (.int .i64 0) := (blk_cell HBZ1.out 1)
  have f0_ : W1.drew.frozen? ⟨w.heap.size, 0, none⟩ = false := blk_frozen HBZ1.out 0
  have f1_ : W1.drew.frozen? ⟨w.heap.size, 1, none⟩ = false := blk_frozen HBZ1.out 1
  have z1'_ : W1.cell? ⟨w.heap.size, 1, none⟩ = some (.int .i64 0) := (blk_cell HBZ1.out 1)
  have f1'_ : W1.frozen? ⟨w.heap.size, 1, none⟩ = false := blk_frozen HBZ1.out 1
  refine start_ (n := 3) (S := fun w' => w'.cell? ⟨w1.heap.size, 0, none⟩ = some (.int .i64 t2) ∧ w'.cell? ⟨w1.heap.size, 1, none⟩ = some (.int .i64 t3)) (ds := [2]) #[false, false, false] (by kernel_rfl) rfl rfl ⟨k0_, k1_⟩ (fun hHeld => ?_)
  refine pure_ (i := 1) (N := some 2) (v := ?_) (a' := ?_) #[false, true, false] rfl rfl (by kernel_rfl) (fun _ _ _ h => h) (Or.inl ⟨by rfl, ?_⟩) ?_ ?_
  rotate_left
  ·intro w'
   go_simp
   with_reducible rfl
  rotate_left
  ·simp only [Act.put, List.setIfInBounds_toArray, List.set_cons_zero, List.set_cons_succ, i64_w, i32_w]
   rfl
  refine take_ (i := 0) (N := some 18) (v := ?_) (a' := ?_) #[true, true, false] rfl rfl (by kernel_rfl) (fun _ _ _ h => h) (Or.inl ⟨by rfl, ?_⟩) hHeld ?_ ?_
  rotate_left
  ·rintro w' ⟨s0, s1⟩
   go_simp
   with_reducible rfl
  rotate_left
  ·simp only [Act.put, List.setIfInBounds_toArray, List.set_cons_zero, List.set_cons_succ, i64_w, i32_w]
   rfl
  refine last_ (i := 2) (N := none) #[true, true, true] rfl rfl (by kernel_rfl) (by decide) (fun K hK => ?_)
  refine skip_ (w1 := ?_) (by rfl) rfl ?_ ?_
  rotate_left
  ·go_simp
   rfl
  refine hK.out _ _ ?_
  clear hK K
  refine done_ (by kernel_rfl) ?_
  have hz_ : ((W1.drew.setCell ⟨w.heap.size, 0, none⟩ (.int .i64 t2)).setCell ⟨w.heap.size, 1, none⟩ (.int .i64 t3)).heap[w.heap.size]? = some (.cells #[.int .i64 t2, .int .i64 t3] 26 (0, 0)) := blk_put (blk_put (show W1.drew.heap[w.heap.size]? = _ from HBZ1.out) 0 _ rfl) 1 _ rfl
  go_wp2
  (try simp only [Exit.inBlock, Exit.then])
  refine bodyPost_ret (results_tc rfl _ _ w.heap.size 26 #[.int .i64 t2, .int .i64 t3] (0, 0) _ rfl hz_ Try.underlying26 rfl (by kernel_rfl)) rfl ?_
  exact ⟨_, rfl, Kd.R_nil _ _ _ _ _, below_set (below_set (below_drew1 HB1.out) (Nat.le_refl _)) (Nat.le_refl _)⟩
 rw [if_pos ct] at h
 have ct0 : (t2 == 0) = true := beq_iff_eq.mpr ct
 have ct1 : (t2 != 0) = false := bne_eq_false_iff_eq.mpr ct
 (first | rw [ct1] | (simp only [i64_w, i32_w]; rw [ct1]) | skip)
 replace h := Option.bind_eq_some_iff.mp h
 obtain ⟨⟨cs, c1, c2, c3, c4⟩, hlo, h⟩ := h
 have HLO := Aside0.mk hlo
 have HR := Aside0.mk h
 clear ct hlo h HH
 have HX := Aside0.mk (show ReAt W1.heap.size w.heap.size tl [] (.slice none 0 0) 0 (a.size : Int) 0 0 w W1 (W1.alloc (.cells #[.slice A0 tl.length c0, .int .i64 0, .int .i64 (a.size : Int), .int .i64 0, .int .i64 0] 71)) from
  ⟨IsS71.new W1 W1 A0 c0 tl 0 (a.size : Int) 0 0 (Below.refl _ _) HC.out, below_alloc (Below.refl _ _) _, HB1.out, blk_lt HBZ1.out, Nat.le_refl _, HBZ1.out, Kd.R_nil _ _ _ _ _⟩)
 go_upto_region 5 with (fail)
 generalize W1.alloc (.cells #[.slice A0 tl.length c0, .int .i64 0, .int .i64 (a.size : Int), .int .i64 0, .int .i64 0] 71) = W2 at HX ⊢
 go_wp2
 (try simp only [Act.put, List.setIfInBounds_toArray, List.set_cons_zero, List.set_cons_succ])
 go_loopg [7] k (fun kq v7 w' => ∃ (acc : List (S33)) (s1 s2 s3 s4 : Int), Aside0 (reLoop kq tl acc s1 s2 s3 s4 = some (cs, c1, c2, c3, c4)) ∧ Aside0 (kq ≤ k) ∧ Aside0 (ReAt W1.heap.size w.heap.size tl acc v7 s1 s2 s3 s4 w W1 w'))
 case atStart => exact ⟨_, _, _, _, _, ⟨HLO.out⟩, ⟨Nat.le_refl _⟩, ⟨HX.out⟩⟩
 case round =>
  clear HX k0_ k1_ HLO
  obtain ⟨acc, s1, s2, s3, s4, HLO, HKQ, HX⟩ := hrel
  obtain ⟨A7, c7, e7⟩ := Kd.R_slice HX.out.row
  subst e7
  obtain ⟨A1, c1_, hG, hg_, hS_⟩ := HX.out.i
  have hc1 := cellS71_1 hG
  have hc3 := cellS71_3 hG
  have hc4 := cellS71_4 hG
  clear hG hg_ hS_
  cases gk with
  | zero => exact absurd HLO.out (by simp [reLoop])
  | succ k1 =>
   have hl := HLO.out
   simp only [reLoop] at hl
   by_cases cl : s3 = 0 ∧ s1 < (tl.length : Int)
   ·rw [if_pos cl] at hl
    have g3 : (s3 == 0) = true := beq_iff_eq.mpr cl.1
    have g1 : decide (s1 < (tl.length : Int)) = true := decide_eq_true cl.2
    replace hl := Option.bind_eq_some_iff.mp hl
    obtain ⟨⟨b0, b1, b2, y1, y2, y3, y4⟩, hbo, hl⟩ := hl
    by_cases hlen : acc.length < 1000000000000
    rotate_left
    ·rw [if_neg hlen] at hl
     cases hl
    rw [if_pos hlen] at hl
    have HBO := Aside0.mk hbo
    have HLN := Aside0.mk hlen
    have HNX := Aside0.mk hl
    clear cl hbo hlen hl
    go_wp2_with fail
    refine (r37_Reader_body.calls k1 _ tl s1 s2 s3 s4 b0 b1 b2 y1 y2 y3 y4 W1 _ HX.out.i HX.out.b HBO.out).mono ?_
    rintro e w3 ⟨v0, v2, rfl, hr0, hr2, hi3, hb3, hk3⟩
    obtain ⟨A5, c5, rfl⟩ := Kd.R_slice hr0
    obtain ⟨A6, c6, rfl⟩ := Kd.R_slice hr2
    have hx3 := HX.out.call hi3 hb3 hk3
    have HX3 := Aside0.mk (hx3.below (below_alloc (Below.refl _ _) (.cells #[.slice A5 b0.length c5, .int .i64 b1, .slice A6 b2.length c6] 33)))
    have HR0 := Aside0.mk (Kd.R_alloc (Kd.R_lower hr0 HX.out.b.size) (.cells #[.slice A5 b0.length c5, .int .i64 b1, .slice A6 b2.length c6] 33))
    have HR2_ := Aside0.mk (Kd.R_alloc (Kd.R_lower hr2 HX.out.b.size) (.cells #[.slice A5 b0.length c5, .int .i64 b1, .slice A6 b2.length c6] 33))
    have hbx := blk_new w3 (.cells #[.slice A5 b0.length c5, .int .i64 b1, .slice A6 b2.length c6] 33)
    clear hr0 hr2 hi3 hb3 hk3 HX hc1 hc3 hc4 hx3
    go_upto_region 8 with (fail)
    generalize w3.alloc (.cells #[.slice A5 b0.length c5, .int .i64 b1, .slice A6 b2.length c6] 33) = W6 at HX3 HR0 HR2_ hbx ⊢
    have z0_ : W6.cell? ⟨w3.heap.size, 0, none⟩ = some (.slice A5 b0.length c5) := (blk_cell hbx 0).trans rfl
    have z1_ : W6.cell? ⟨w3.heap.size, 1, none⟩ = some (.int .i64 b1) := (blk_cell hbx 1).trans rfl
    have z2_ : W6.cell? ⟨w3.heap.size, 2, none⟩ = some (.slice A6 b2.length c6) := (blk_cell hbx 2).trans rfl
    clear hbx
    go_wp2_with (first | ((with_reducible refine gate_builtin (b := .append) (xs := #[.tmp 41, .tmp 43]) rfl ?_); at_builtin; refine Kd.R_append k33 (w0 := W6) W1.heap.size rfl (.tmp 41) (.tmp 43) 22 33 (.agg #[.slice none 0 0, .int .i64 0, .slice none 0 0]) 56 rfl Try.underlying22 (by kernel_rfl) rfl (by decide) (by omega) (.slice A7 acc.length c7) acc (⟨b0, b1, b2⟩ : S33) [.slice A5 b0.length c5, .int .i64 b1, .slice A6 b2.length c6] (fun _ => True) (fun k => True ∧ some k ≠ (Value.slice A7 acc.length c7).ownBlock) rfl rfl (k33_mkM _ _ _ (⟨b0, b1, b2⟩ : S33) (Kd.R_apart' HR0.out (Kd.R_typed HX3.out.row) (by decide)) (Kd.R_apart' HR2_.out (Kd.R_typed HX3.out.row) (by decide))) (fun k hk => ⟨trivial, hk.2⟩) (fun k hk => trivial) HX3.out.row (Below.refl _ _) HX3.out.b.size (by have := HLN.out; omega) ?_; intro v1 w4_ hr4 hb4 hg4 hv4; have HX9 := Aside0.mk (HX3.out.app hr4 hg4); clear hr4 hb4 hg4 hv4))
    go_wp2
    go_roundg k1
    case measure => have := HKQ.out; omega
    case rel => exact ⟨_, _, _, _, _, ⟨HNX.out⟩, ⟨by have := HKQ.out; omega⟩, ⟨HX9.out⟩⟩
   ·rw [if_neg cl] at hl
    simp only [Option.some.injEq, Prod.mk.injEq] at hl
    obtain ⟨rfl, rfl, rfl, rfl, rfl⟩ := hl
    have h := HR.out
    by_cases c3z : s3 = 0
    ·have g3 : (s3 == 0) = true := beq_iff_eq.mpr c3z
     have g3' : (s3 != 0) = false := bne_eq_false_iff_eq.mpr c3z
     have g1 : decide (s1 < (tl.length : Int)) = false := decide_eq_false (fun e => cl ⟨c3z, e⟩)
     rw [if_pos c3z] at h
     replace h := Option.bind_eq_some_iff.mp h
     obtain ⟨⟨e1, e2⟩, he, h⟩ := h
     obtain ⟨A8, c8, e8, hl8, hC8⟩ := Kd.R_reads HX.out.row
     injection e8 with e8 _ e9
     subst e8
     subst e9
     have HE := Aside0.mk he
     have HC8 := Aside0.mk hC8
     have HL8 := Aside0.mk hl8
     have HR2 := Aside0.mk h
     clear cl c3z he hC8 hl8 h
     go_wp2_with fail
     refine (r33_Check.calls k A7 c7 acc e1 e2 _ HC8.out HL8.out HE.out).mono ?_
     rintro e w4 ⟨rfl, hb4⟩
     have hx4 := HX.out.below hb4
     have HX4 := Aside0.mk (hx4.below (below_alloc (Below.refl _ _) (.cells #[.int .i64 e1, .int .i64 e2] 26)))
     have HBX := Aside0.mk (blk_new w4 (.cells #[.int .i64 e1, .int .i64 e2] 26))
     have HLT4 := Aside0.mk (show w.heap.size ≠ w4.heap.size from Nat.ne_of_lt (blk_lt hx4.zero))
     clear hb4 hx4 HX hc1 hc3 hc4
     go_upto_region 12 with (fail)
     generalize w4.alloc (.cells #[.int .i64 e1, .int .i64 e2] 26) = W5 at HX4 HBX ⊢
     have j0_ := blk_cell HBX.out 0
     have j1_ := blk_cell HBX.out 1
     have h := HR2.out
     by_cases ce : e1 = 0
     ·rw [if_pos ce] at h
      have g5 : (e1 == 0) = true := beq_iff_eq.mpr ce
      have g5' : (e1 != 0) = false := bne_eq_false_iff_eq.mpr ce
      simp only [Option.some.injEq, Prod.mk.injEq] at h
      obtain ⟨rfl, rfl, rfl⟩ := h
      have z0_ := blk_cell HX4.out.zero 0
      have z1_ := blk_cell HX4.out.zero 1
      have f0_ := blk_frozen HX4.out.zero 0
      have f1_ := blk_frozen HX4.out.zero 1
      have hz_ : ((W5.setCell ⟨w.heap.size, 0, none⟩ (.int .i64 0)).setCell ⟨w.heap.size, 1, none⟩ (.int .i64 0)).heap[w.heap.size]? = some (.cells #[.int .i64 0, .int .i64 0] 26 (0, 0)) := blk_put (blk_put HX4.out.zero 0 _ rfl) 1 _ rfl
      have HZZ := Aside0.mk hz_
      have HBB := Aside0.mk (below_set (below_set HX4.out.bel (g := w.heap.size) (j := 0) (v := .int .i64 0) (Nat.le_refl _)) (g := w.heap.size) (j := 1) (v := .int .i64 0) (Nat.le_refl _))
      have HRR := Aside0.mk (Kd.R_set (Kd.R_set HX4.out.row HX4.out.zero (by decide) 0 (.int .i64 0)) (blk_put HX4.out.zero 0 (.int .i64 0) rfl) (by decide) 1 (.int .i64 0))
      clear hz_ ce
      go_wp2
      (try simp only [Exit.inBlock, Exit.then])
      refine bodyPost_ret (results_tc rfl _ _ w.heap.size 26 #[.int .i64 0, .int .i64 0] (0, 0) _ rfl HZZ.out Try.underlying26 rfl (by kernel_rfl)) rfl ?_
      exact ⟨_, rfl, Kd.R_lower HRR.out (below_size HB1.out), HBB.out⟩
     ·rw [if_neg ce] at h
      have g5 : (e1 == 0) = false := beq_eq_false_iff_ne.mpr ce
      have g5' : (e1 != 0) = true := bne_iff_ne.mpr ce
      simp only [Option.some.injEq, Prod.mk.injEq] at h
      obtain ⟨rfl, rfl, rfl⟩ := h
      clear ce
      go_upto_region 13 with (fail)
      have z0_ : W5.drew.cell? ⟨w.heap.size, 0, none⟩ = some (.int .i64 0) := (blk_cell HX4.out.zero 0)
      have z1_ : W5.drew.cell? ⟨w.heap.size, 1, none⟩ = some (.int .i64 0) := (blk_cell HX4.out.zero 1)
      have f0_ : W5.drew.frozen? ⟨w.heap.size, 0, none⟩ = false := blk_frozen HX4.out.zero 0
      have f1_ : W5.drew.frozen? ⟨w.heap.size, 1, none⟩ = false := blk_frozen HX4.out.zero 1
      have z1'_ : W5.cell? ⟨w.heap.size, 1, none⟩ = some (.int .i64 0) := (blk_cell HX4.out.zero 1)
      have f1'_ : W5.frozen? ⟨w.heap.size, 1, none⟩ = false := blk_frozen HX4.out.zero 1
      refine start_ (n := 10) (S := fun w' => w'.cell? ⟨w4.heap.size, 0, none⟩ = some (.int .i64 e1) ∧ w'.cell? ⟨w4.heap.size, 1, none⟩ = some (.int .i64 e2)) (ds := [9]) #[false, false, false, false, false, false, false, false, false, false] (by kernel_rfl) rfl rfl ⟨j0_, j1_⟩ (fun hHeld => ?_)
      refine pure_ (i := 0) (N := some 60) (v := ?_) (a' := ?_) #[true, false, false, false, false, false, false, false, false, false] rfl rfl (by kernel_rfl) (fun _ _ _ h => h) (Or.inl ⟨by rfl, ?_⟩) ?_ ?_
      rotate_left
      ·intro w'
       go_simp
       with_reducible rfl
      rotate_left
      ·simp only [Act.put, List.setIfInBounds_toArray, List.set_cons_zero, List.set_cons_succ, i64_w, i32_w]
       rfl
      refine pure_ (i := 2) (N := some 62) (v := ?_) (a' := ?_) #[true, false, true, false, false, false, false, false, false, false] rfl rfl (by kernel_rfl) (fun _ _ _ h => h) (Or.inl ⟨by rfl, ?_⟩) ?_ ?_
      rotate_left
      ·intro w'
       go_simp
       with_reducible rfl
      rotate_left
      ·simp only [Act.put, List.setIfInBounds_toArray, List.set_cons_zero, List.set_cons_succ, i64_w, i32_w]
       rfl
      refine pure_ (i := 3) (N := some 63) (v := ?_) (a' := ?_) #[true, false, true, true, false, false, false, false, false, false] rfl rfl (by kernel_rfl) (fun _ _ _ h => h) (Or.inl ⟨by rfl, ?_⟩) ?_ ?_
      rotate_left
      ·intro w'
       go_simp
       with_reducible rfl
      rotate_left
      ·simp only [Act.put, List.setIfInBounds_toArray, List.set_cons_zero, List.set_cons_succ, i64_w, i32_w]
       rfl
      refine pure_ (i := 4) (N := some 64) (v := ?_) (a' := ?_) #[true, false, true, true, true, false, false, false, false, false] rfl rfl (by kernel_rfl) (fun _ _ _ h => h) (Or.inl ⟨by rfl, ?_⟩) ?_ ?_
      rotate_left
      ·intro w'
       go_simp
       with_reducible rfl
      rotate_left
      ·simp only [Act.put, List.setIfInBounds_toArray, List.set_cons_zero, List.set_cons_succ, i64_w, i32_w]
       rfl
      refine pure_ (i := 8) (N := some 2) (v := ?_) (a' := ?_) #[true, false, true, true, true, false, false, false, true, false] rfl rfl (by kernel_rfl) (fun _ _ _ h => h) (Or.inl ⟨by rfl, ?_⟩) ?_ ?_
      rotate_left
      ·intro w'
       go_simp
       with_reducible rfl
      rotate_left
      ·simp only [Act.put, List.setIfInBounds_toArray, List.set_cons_zero, List.set_cons_succ, i64_w, i32_w]
       rfl
      refine take_ (i := 1) (N := some 61) (v := ?_) (a' := ?_) #[true, true, true, true, true, false, false, false, true, false] rfl rfl (by kernel_rfl) (fun _ _ _ h => h) (Or.inl ⟨by rfl, ?_⟩) hHeld ?_ ?_
      rotate_left
      ·rintro w' ⟨s0, s1⟩
       go_simp
       with_reducible rfl
      rotate_left
      ·simp only [Act.put, List.setIfInBounds_toArray, List.set_cons_zero, List.set_cons_succ, i64_w, i32_w]
       rfl
      refine take_ (i := 5) (N := some 65) (v := ?_) (a' := ?_) #[true, true, true, true, true, true, false, false, true, false] rfl rfl (by kernel_rfl) (fun _ _ _ h => h) (Or.inl ⟨by rfl, ?_⟩) hHeld ?_ ?_
      rotate_left
      ·rintro w' ⟨s0, s1⟩
       go_simp
       with_reducible rfl
      rotate_left
      ·simp only [Act.put, List.setIfInBounds_toArray, List.set_cons_zero, List.set_cons_succ, i64_w, i32_w]
       rfl
      refine pure_ (i := 6) (N := some 66) (v := ?_) (a' := ?_) #[true, true, true, true, true, true, true, false, true, false] rfl rfl (by kernel_rfl) (fun _ _ _ h => h) (Or.inl ⟨by rfl, ?_⟩) ?_ ?_
      rotate_left
      ·intro w'
       go_simp
       with_reducible rfl
      rotate_left
      ·simp only [Act.put, List.setIfInBounds_toArray, List.set_cons_zero, List.set_cons_succ, i64_w, i32_w]
       rfl
      refine pure_ (i := 7) (N := some 67) (v := ?_) (a' := ?_) #[true, true, true, true, true, true, true, true, true, false] rfl rfl (by kernel_rfl) (fun _ _ _ h => h) (Or.inl ⟨by rfl, ?_⟩) ?_ ?_
      rotate_left
      ·intro w'
       go_simp
       with_reducible rfl
      rotate_left
      ·simp only [Act.put, List.setIfInBounds_toArray, List.set_cons_zero, List.set_cons_succ, i64_w, i32_w]
       rfl
      refine last_ (i := 9) (N := none) #[true, true, true, true, true, true, true, true, true, true] rfl rfl (by kernel_rfl) (by decide) (fun K hK => ?_)
      refine skip_ (w1 := ?_) (by rfl) rfl ?_ ?_
      rotate_left
      ·go_simp
       rfl
      refine hK.out _ _ ?_
      clear hK K
      refine done_ (by kernel_rfl) ?_
      have hz_ : ((W5.drew.setCell ⟨w.heap.size, 0, none⟩ (.int .i64 e1)).setCell ⟨w.heap.size, 1, none⟩ (.int .i64 (wrap64 ((a.size : Int) + e2)))).heap[w.heap.size]? = some (.cells #[.int .i64 e1, .int .i64 (wrap64 ((a.size : Int) + e2))] 26 (0, 0)) := blk_put (blk_put (show W5.drew.heap[w.heap.size]? = _ from HX4.out.zero) 0 _ rfl) 1 _ rfl
      go_wp2
      (try simp only [Exit.inBlock, Exit.then])
      refine bodyPost_ret (results_tc rfl _ _ w.heap.size 26 #[.int .i64 e1, .int .i64 (wrap64 ((a.size : Int) + e2))] (0, 0) _ rfl hz_ Try.underlying26 rfl (by kernel_rfl)) rfl ?_
      exact ⟨_, rfl, Kd.R_nil _ _ _ _ _, below_set (below_set (below_drew1 HX4.out.bel) (Nat.le_refl _)) (Nat.le_refl _)⟩
    ·have g3 : (s3 == 0) = false := beq_eq_false_iff_ne.mpr c3z
     have g3' : (s3 != 0) = true := bne_iff_ne.mpr c3z
     rw [if_neg c3z] at h
     simp only [Option.some.injEq, Prod.mk.injEq] at h
     obtain ⟨rfl, rfl, rfl⟩ := h
     clear cl c3z
     go_upto_region 10 with (fail)
     have z0_ : wr.drew.cell? ⟨w.heap.size, 0, none⟩ = some (.int .i64 0) := (blk_cell HX.out.zero 0)
     have z1_ : wr.drew.cell? ⟨w.heap.size, 1, none⟩ = some (.int .i64 0) := (blk_cell HX.out.zero 1)
     have f0_ : wr.drew.frozen? ⟨w.heap.size, 0, none⟩ = false := blk_frozen HX.out.zero 0
     have f1_ : wr.drew.frozen? ⟨w.heap.size, 1, none⟩ = false := blk_frozen HX.out.zero 1
     have z1'_ : wr.cell? ⟨w.heap.size, 1, none⟩ = some (.int .i64 0) := (blk_cell HX.out.zero 1)
     have f1'_ : wr.frozen? ⟨w.heap.size, 1, none⟩ = false := blk_frozen HX.out.zero 1
     refine start_ (n := 6) (S := fun w' => w'.cell? ⟨W1.heap.size, 3, none⟩ = some (.int .i64 s3) ∧ w'.cell? ⟨W1.heap.size, 4, none⟩ = some (.int .i64 s4)) (ds := [5]) #[false, false, false, false, false, false] (by kernel_rfl) rfl rfl ⟨hc3, hc4⟩ (fun hHeld => ?_)
     refine pure_ (i := 0) (N := some 51) (v := ?_) (a' := ?_) #[true, false, false, false, false, false] rfl rfl (by kernel_rfl) (fun _ _ _ h => h) (Or.inl ⟨by rfl, ?_⟩) ?_ ?_
     rotate_left
     ·intro w'
      go_simp
      with_reducible rfl
     rotate_left
     ·simp only [Act.put, List.setIfInBounds_toArray, List.set_cons_zero, List.set_cons_succ, i64_w, i32_w]
      rfl
     refine pure_ (i := 1) (N := some 52) (v := ?_) (a' := ?_) #[true, true, false, false, false, false] rfl rfl (by kernel_rfl) (fun _ _ _ h => h) (Or.inl ⟨by rfl, ?_⟩) ?_ ?_
     rotate_left
     ·intro w'
      go_simp
      with_reducible rfl
     rotate_left
     ·simp only [Act.put, List.setIfInBounds_toArray, List.set_cons_zero, List.set_cons_succ, i64_w, i32_w]
      rfl
     refine pure_ (i := 2) (N := some 53) (v := ?_) (a' := ?_) #[true, true, true, false, false, false] rfl rfl (by kernel_rfl) (fun _ _ _ h => h) (Or.inl ⟨by rfl, ?_⟩) ?_ ?_
     rotate_left
     ·intro w'
      go_simp
      with_reducible rfl
     rotate_left
     ·simp only [Act.put, List.setIfInBounds_toArray, List.set_cons_zero, List.set_cons_succ, i64_w, i32_w]
      rfl
     refine pure_ (i := 4) (N := some 2) (v := ?_) (a' := ?_) #[true, true, true, false, true, false] rfl rfl (by kernel_rfl) (fun _ _ _ h => h) (Or.inl ⟨by rfl, ?_⟩) ?_ ?_
     rotate_left
     ·intro w'
      go_simp
      with_reducible rfl
     rotate_left
     ·simp only [Act.put, List.setIfInBounds_toArray, List.set_cons_zero, List.set_cons_succ, i64_w, i32_w]
      rfl
     refine take_ (i := 3) (N := some 54) (v := ?_) (a' := ?_) #[true, true, true, true, true, false] rfl rfl (by kernel_rfl) (fun _ _ _ h => h) (Or.inl ⟨by rfl, ?_⟩) hHeld ?_ ?_
     rotate_left
     ·rintro w' ⟨s0, s1⟩
      go_simp
      with_reducible rfl
     rotate_left
     ·simp only [Act.put, List.setIfInBounds_toArray, List.set_cons_zero, List.set_cons_succ, i64_w, i32_w]
      rfl
     refine last_ (i := 5) (N := none) #[true, true, true, true, true, true] rfl rfl (by kernel_rfl) (by decide) (fun K hK => ?_)
     refine skip_ (w1 := ?_) (by rfl) rfl ?_ ?_
     rotate_left
     ·go_simp
      rfl
     refine hK.out _ _ ?_
     clear hK K
     refine done_ (by kernel_rfl) ?_
     have hz_ : ((wr.drew.setCell ⟨w.heap.size, 0, none⟩ (.int .i64 s3)).setCell ⟨w.heap.size, 1, none⟩ (.int .i64 s4)).heap[w.heap.size]? = some (.cells #[.int .i64 s3, .int .i64 s4] 26 (0, 0)) := blk_put (blk_put (show wr.drew.heap[w.heap.size]? = _ from HX.out.zero) 0 _ rfl) 1 _ rfl
     go_wp2
     (try simp only [Exit.inBlock, Exit.then])
     refine bodyPost_ret (results_tc rfl _ _ w.heap.size 26 #[.int .i64 s3, .int .i64 s4] (0, 0) _ rfl hz_ Try.underlying26 rfl (by kernel_rfl)) rfl ?_
     exact ⟨_, rfl, Kd.R_nil _ _ _ _ _, below_set (below_set (below_drew1 HX.out.bel) (Nat.le_refl _)) (Nat.le_refl _)⟩
end Go.Proofs.Ytkgjbdbhpohkiaa.PLi
end
-- from YtkgjbdbhpohkiaaHLReads
section
namespace Go.Proofs.Ytkgjbdbhpohkiaa.PLi
open Go.RowKit Go.Proofs.YtkgjbdbhpohkiaaW.PrintWords Go.Proofs.YtkgjbdbhpohkiaaW.PrintLast Go.Proofs.YtkgjbdbhpohkiaaW.PrintMore Go.Proofs.Ytkgjbdbhpohkiaa.Str
set_option linter.unusedVariables false
set_option linter.unusedSimpArgs false
def l37_ListingReads.f (k : Nat) (a : ByteArray) : Option Bool :=
 if 2500 < a.size then some true else (listing_Read.f k a).bind fun x => (r37_Read.f k a).bind fun y => (r32_Same.f x.1 y.1).bind fun s => if s = true ∧ x.2.1 = y.2.1 ∧ x.2.2 = y.2.2 then some true else none
set_option maxHeartbeats 8000000 in
set_option maxRecDepth 100000 in
theorem l37_ListingReads.calls (k : Nat) (a : ByteArray) (r : Bool) (w : World) (h : l37_ListingReads.f k a = some r) :
  Calls Try.prog 4 #[.string a] w fun e w' => e = .returned (.bool r) ∧ Below w.heap.size w w' := by
 have hu33 := Try.underlying33
 have hu37 := Try.underlying37
 have hu26 := Try.underlying26
 have hfl : ∀ (u0 u1 : Value) (W : World), (Instr.field 26 (.agg #[u0, u1]) 0).run Try.prog W = .ok (u0) W := fun _ _ _ => by show _ = _; kernel_rfl
 unfold l37_ListingReads.f at h
 have HB := Aside0.mk (Below.refl w.heap.size w)
 by_cases hbig : 2500 < a.size
 ·rw [if_pos hbig] at h
  obtain rfl := Option.some.inj h
  have d0 : decide (2500 < (a.size : Int)) = true := decide_eq_true (by omega)
  have d1 : decide (2500 < a.size) = true := decide_eq_true hbig
  clear hbig
  go_enter Try.func4, Try.ntmps4
  go_wp2_with fail
  refine (l37_works.calls true _ rfl).mono ?_
  rintro e w1 ⟨rfl, hb⟩
  have HB1 := Aside0.mk (below_step HB.out hb)
  clear hb
  go_wp2
  go_ret
  exact ⟨rfl, HB1.out⟩
 rw [if_neg hbig] at h
 have d0 : decide (2500 < (a.size : Int)) = false := decide_eq_false (by omega)
 have d1 : decide (2500 < a.size) = false := decide_eq_false hbig
 clear hbig
 replace h := Option.bind_eq_some_iff.mp h
 obtain ⟨⟨x, f1, f2⟩, hx, h⟩ := h
 replace h := Option.bind_eq_some_iff.mp h
 obtain ⟨⟨y, f1', f2'⟩, hy, h⟩ := h
 replace h := Option.bind_eq_some_iff.mp h
 obtain ⟨s, hs, h⟩ := h
 by_cases hc : s = true ∧ f1 = f1' ∧ f2 = f2'
 rotate_left
 ·rw [if_neg hc] at h
  cases h
 rw [if_pos hc] at h
 obtain rfl := Option.some.inj h
 obtain ⟨rfl, rfl, rfl⟩ := hc
 have HX := Aside0.mk hx
 have HY := Aside0.mk hy
 have HS := Aside0.mk hs
 clear hx hy hs h
 go_enter Try.func4, Try.ntmps4
 go_wp2_with fail
 refine (listing_Read.calls k a x f1 f2 _ HX.out).mono ?_
 rintro e w1 ⟨v1, rfl, hr1, hb⟩
 obtain ⟨A1, c1, e_, hl1, hC1⟩ := Kd.R_reads hr1
 subst e_
 clear hr1
 have HL1 := Aside0.mk hl1
 clear hl1
 have HB1 := Aside0.mk (below_step HB.out hb)
 clear hb
 have hbx := below_alloc (Below.refl w1.heap.size w1) (.cells #[.int .i64 f1, .int .i64 f2] 26)
 have HB2 := Aside0.mk (below_step HB1.out hbx)
 have HE2 := Aside0.mk (blk_new w1 (.cells #[.int .i64 f1, .int .i64 f2] 26))
 have HX2 := Aside0.mk (Kd.C_below hC1 hbx)
 go_upto_region 4 with (fail)
 generalize hww : w1 = w1_ at *
 generalize w1_.alloc (.cells #[.int .i64 f1, .int .i64 f2] 26) = W2 at *
 clear hww hbx
 clear hC1
 go_wp2_with fail
 refine (r37_Read.calls k a y f1 f2 _ HY.out).mono ?_
 rintro e w3 ⟨v3, rfl, hr3, hb⟩
 obtain ⟨A3, c3, e_, hl3, hC3⟩ := Kd.R_reads hr3
 subst e_
 clear hr3
 have HL3 := Aside0.mk hl3
 clear hl3
 have HE3 := Aside0.mk (blk_below HE2.out hb)
 have HB3 := Aside0.mk (below_step HB2.out hb)
 have HX3 := Aside0.mk (Kd.C_below HX2.out hb)
 clear hb
 have hbx := below_alloc (Below.refl w3.heap.size w3) (.cells #[.int .i64 f1, .int .i64 f2] 26)
 have HB4 := Aside0.mk (below_step HB3.out hbx)
 have HF4 := Aside0.mk (blk_new w3 (.cells #[.int .i64 f1, .int .i64 f2] 26))
 have HX4 := Aside0.mk (Kd.C_below HX3.out hbx)
 have HY4 := Aside0.mk (Kd.C_below hC3 hbx)
 have HE4 := Aside0.mk (blk_below HE3.out hbx)
 go_upto_region 5 with (fail)
 generalize hww : w3 = w3_ at *
 generalize w3_.alloc (.cells #[.int .i64 f1, .int .i64 f2] 26) = W4 at *
 clear hww hbx
 clear hC3
 go_wp2_with fail
 refine (r32_Same.calls A1 c1 x A3 c3 y true _ HX4.out HL1.out HY4.out HL3.out HS.out).mono ?_
 rintro e w5 ⟨rfl, hb⟩
 have he_ := blk_below HE4.out hb
 have hf_ := blk_below HF4.out hb
 have HB5 := Aside0.mk (below_step HB4.out hb)
 clear hb
 have x0 := blk_cell he_ 0
 have x1 := blk_cell he_ 1
 have y0 := blk_cell hf_ 0
 have y1 := blk_cell hf_ 1
 clear he_ hf_
 go_wp2_with fail
 refine (l37_works.calls true _ rfl).mono ?_
 rintro e w6 ⟨rfl, hb⟩
 have HB6 := Aside0.mk (below_step HB5.out hb)
 clear hb
 go_wp2
 go_ret
 exact ⟨rfl, HB6.out⟩
end Go.Proofs.Ytkgjbdbhpohkiaa.PLi
end
