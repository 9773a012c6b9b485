import Derived.Test.YtkgjbdbhpohkiaaMr2
import Derived.Test.YtkgjbdbhpohkiaaMr14
import Derived.Test.YtkgjbdbhpohkiaaMr15
import Derived.Test.YtkgjbdbhpohkiaaMr5
-- from YtkgjbdbhpohkiaaPLix17
section
namespace Go.Proofs.Ytkgjbdbhpohkiaa.PLi
open Go.RowKit Go.Proofs.YtkgjbdbhpohkiaaW.PrintWords Go.Proofs.YtkgjbdbhpohkiaaW.PrintLast Go.Proofs.YtkgjbdbhpohkiaaW.PrintMore Go.Proofs.Ytkgjbdbhpohkiaa.Zip
attribute [local go_sem] max2_int min2_int max_two min_two max_three min_three max_four min_four   -- for this text's walks alone
set_option linter.unusedVariables false
set_option linter.unusedSimpArgs false
mutual
def code_Check.l0 : Nat → List (S33) → List (S33) → Int → Int → Option (Int × Int)
 | 0, _, _, _, _ => none
 | k + 1, x0, x14, x15, x16 => if x16 < x15 then (if 0 ≤ x16 then (if x16 < (x14.length : Int) then (if ((rd_T33 x14 x16).f1) < 1 then (code_Check.j1 k x0 x16 (((rd_T33 x14 x16).f2).length : Int) x14 x15 x16 true ((rd_T33 x14 x16).f0) ((rd_T33 x14 x16).f1) ((rd_T33 x14 x16).f2)) else (if ((rd_T33 x14 x16).f1) > 4096 then (code_Check.j1 k x0 x16 (((rd_T33 x14 x16).f2).length : Int) x14 x15 x16 true ((rd_T33 x14 x16).f0) ((rd_T33 x14 x16).f1) ((rd_T33 x14 x16).f2)) else (if (((rd_T33 x14 x16).f0).length : Int) > 8 then (code_Check.j1 k x0 x16 (((rd_T33 x14 x16).f2).length : Int) x14 x15 x16 true ((rd_T33 x14 x16).f0) ((rd_T33 x14 x16).f1) ((rd_T33 x14 x16).f2)) else (code_Check.j1 k x0 x16 (((rd_T33 x14 x16).f2).length : Int) x14 x15 x16 (decide ((((rd_T33 x14 x16).f2).length : Int) > 65536)) ((rd_T33 x14 x16).f0) ((rd_T33 x14 x16).f1) ((rd_T33 x14 x16).f2))))) else (none)) else (none)) else (some (0, 0))
def code_Check.j1 : Nat → List (S33) → Int → Int → List (S33) → Int → Int → Bool → List Int → Int → List (S37) → Option (Int × Int)
 | 0, _, _, _, _, _, _, _, _, _, _ => none
 | k + 1, x0, x3, x5, x14, x15, x16, x24, x191000, x191001, x191002 => if x24 = true then (some (6, x3)) else (if x5 = 0 then (code_Check.j2 k x0 x3 x5 x14 x15 x16 true x191000 x191001 x191002) else (if 0 ≤ (wrap64 (x5 - 1)) then (if (wrap64 (x5 - 1)) < (x191002.length : Int) then ((code_ends.f ((rd_T37 x191002 (wrap64 (x5 - 1))).f0)).bind fun t192 => (code_Check.j2 k x0 x3 x5 x14 x15 x16 (!t192) x191000 x191001 x191002)) else (none)) else (none)))
def code_Check.j2 : Nat → List (S33) → Int → Int → List (S33) → Int → Int → Bool → List Int → Int → List (S37) → Option (Int × Int)
 | 0, _, _, _, _, _, _, _, _, _, _ => none
 | k + 1, x0, x3, x5, x14, x15, x16, x45, x191000, x191001, x191002 => if x45 = true then (some (15, x3)) else (if (x191000.any (offB x191001)) = true then (some (8, x3)) else (code_Check.l1 k x0 x3 x5 x14 x15 x16 x191002 (x191002.length : Int) 0 x191000 x191001 x191002))
def code_Check.l1 : Nat → List (S33) → Int → Int → List (S33) → Int → Int → List (S37) → Int → Int → List Int → Int → List (S37) → Option (Int × Int)
 | 0, _, _, _, _, _, _, _, _, _, _, _, _ => none
 | k + 1, x0, x3, x5, x14, x15, x16, x69, x70, x71, x191000, x191001, x191002 => if x71 < x70 then (if 0 ≤ x71 then (if x71 < (x69.length : Int) then ((code_inst.f ((rd_T37 x69 x71).f0) ((rd_T37 x69 x71).f1) ((rd_T37 x69 x71).f2) ((rd_T37 x69 x71).f3) ((rd_T37 x69 x71).f4) ((rd_T37 x69 x71).f5) ((rd_T37 x69 x71).f6.f0) ((rd_T37 x69 x71).f6.f1) x191001 x5 (x0.length : Int)).bind fun t195 => (if t195 = true then (code_Check.l1 k x0 x3 x5 x14 x15 x16 x69 x70 (wrap64 (x71 + 1)) x191000 x191001 x191002) else (some (2, x3)))) else (none)) else (none)) else (code_Check.l0 k x0 x14 x15 (wrap64 (x16 + 1)))
end
def code_Check.f (k : Nat) (l0 : List (S33)) : Option (Int × Int) := if (l0.length : Int) > 32 then (some (6, (l0.length : Int))) else (code_Check.l0 k l0 l0 (l0.length : Int) 0)
set_option maxHeartbeats 8000000 in
set_option maxRecDepth 100000 in
theorem code_Check.calls (k : Nat) (A0 : Option Addr) (c0 : Nat) (l0 : List (S33)) (r1 : Int) (r2 : Int) (w : World) (hr0 : Kd.C k33 w A0 l0.length l0) (hc0 : l0.length ≤ c0) (h : code_Check.f k l0 = some (r1, r2)) :
  Calls Try.prog 38 #[.slice A0 l0.length c0] w fun e w' => e = .returned (.agg #[.int .i64 r1, .int .i64 r2]) ∧ Below w.heap.size w w' := by
 have hu26 := Try.underlying26
 have hu33 := Try.underlying33
 have hu37 := Try.underlying37
 have HR0 := Aside0.mk hr0
 have HC0 := Aside0.mk hc0
 clear hr0 hc0
 have HB := Aside0.mk (Below.refl w.heap.size w)
 have H : (if (l0.length : Int) > 32 then (some (6, (l0.length : Int))) else (code_Check.l0 k l0 l0 (l0.length : Int) 0)) = some (r1, r2) := h
 clear h
 by_cases c2 : (l0.length : Int) > 32
 ·rw [if_pos c2] at H
  have c2b0 : decide (32 < (l0.length : Int)) = true := decide_eq_true c2
  have c2b1 : decide (32 < l0.length) = true := decide_eq_true (by omega)
  clear c2
  simp only [Option.some.injEq, Prod.mk.injEq] at H
  obtain ⟨rfl, rfl⟩ := H
  go_enter Try.func38, Try.ntmps38
  go_wp2_with (first | ((with_reducible refine gate_dst (N := 2) rfl ?_); (try (refine gate_guard (by rfl) ?_; dsimp only)); refine box_event ?hg (N := 2) ?hd (cs := #[.int .i64 0, .int .i64 0]) (t := 26) ?hr ?_; (case hd => rfl); (case hg => rfl); (case hr => first | (go_simp; done) | (go_simp; rfl)); intro gb188 hg w3 hbox hb; have n0_ := Aside0.mk (below_step (zB HB.out) hb); have n1_ := Aside0.mk (hbox); have n2_ := Aside0.mk ((by rw [hg]; exact (below_size (zB HB.out)) : w.heap.size ≤ gb188)); have n3_ := Aside0.mk ((by rw [hg]; exact (below_size (zB HB.out)) : w.heap.size ≤ gb188)); clear HB; have HB := n0_; have BK188 := n1_; have GW188 := n2_; have GE188 := n3_; clear n0_ n1_ n2_ n3_; clear hb hbox hg; have hcz4_0 : w3.cell? ⟨gb188, 0, none⟩ = some (.int .i64 0) := (blk_cell BK188.out 0).trans rfl; have hcz4_1 : w3.cell? ⟨gb188, 1, none⟩ = some (.int .i64 0) := (blk_cell BK188.out 1).trans rfl; have hfz4_0 := blk_frozen BK188.out 0; have hfz4_1 := blk_frozen BK188.out 1))
  refine bodyPost_ret (results_cell_row rfl _ _ gb188 26 #[.int .i64 6, .int .i64 (l0.length : Int)] (0, 0) _ rfl (by (with_reducible repeat (first | refine blk_drewN ?_ _ | refine blk_drew ?_ | refine blk_alloc ?_ _)); refine blk_put (cs := #[.int .i64 6, .int .i64 0]) ?_ 1 _ rfl; (with_reducible repeat (first | refine blk_drewN ?_ _ | refine blk_drew ?_ | refine blk_alloc ?_ _)); refine blk_put (cs := #[.int .i64 0, .int .i64 0]) ?_ 0 _ rfl; (with_reducible repeat (first | refine blk_drewN ?_ _ | refine blk_drew ?_ | refine blk_alloc ?_ _)); exact BK188.out) Try.underlying26 rfl (by kernel_rfl)) rfl ?_
  exact ⟨zF, zC HB.out GE188.out⟩
 ·rw [if_neg c2] at H
  have c2b0 : decide (32 < (l0.length : Int)) = false := decide_eq_false c2
  have c2b1 : decide (32 < l0.length) = false := decide_eq_false (by omega)
  clear c2
  have H' := Aside0.mk H
  clear H
  go_enter Try.func38, Try.ntmps38
  go_wp2_with (first | ((with_reducible refine gate_dst (N := 2) rfl ?_); (try (refine gate_guard (by rfl) ?_; dsimp only)); refine box_event ?hg (N := 2) ?hd (cs := #[.int .i64 0, .int .i64 0]) (t := 26) ?hr ?_; (case hd => rfl); (case hg => rfl); (case hr => first | (go_simp; done) | (go_simp; rfl)); intro gb188 hg w5 hbox hb; have n0_ := Aside0.mk (below_step (zB HB.out) hb); have n1_ := Aside0.mk (hbox); have n2_ := Aside0.mk ((by rw [hg]; exact (below_size (zB HB.out)) : w.heap.size ≤ gb188)); have n3_ := Aside0.mk ((by rw [hg]; exact (below_size (zB HB.out)) : w.heap.size ≤ gb188)); clear HB; have HB := n0_; have BK188 := n1_; have GW188 := n2_; have GE188 := n3_; clear n0_ n1_ n2_ n3_; clear hb hbox hg))
  go_loopg [16] k (fun kq v16 w' => ∃ (x16_1 : Int) (x189000_1 : Int) (x189001_1 : Int), v16 = .int .i64 x16_1 ∧ Aside0 (code_Check.l0 kq l0 l0 (l0.length : Int) x16_1 = some (r1, r2)) ∧ Aside0 (kq ≤ k) ∧ Aside0 (w'.heap[gb188]? = some (.cells #[.int .i64 x189000_1, .int .i64 x189001_1] 26 (0, 0))) ∧ Aside0 (Below w.heap.size w w'))
  case atStart => exact ⟨(0), (0), (0), (by first | rfl | (simp; done) | (simp [*]; done)), H', ⟨Nat.le_refl _⟩, ⟨zK BK188.out⟩, ⟨zC HB.out GE188.out⟩⟩
  case round =>
   clear H'
   try clear c2
   try clear c2b0
   try clear c2b1
   try clear p2
   try clear c3
   try clear hcz4_0
   try clear hcz4_1
   try clear hfz4_0
   try clear hfz4_1
   obtain ⟨x16_1, x189000_1, x189001_1, rfl, HA, HK1, BK188, HB⟩ := hrel
   cases gk with
   | zero => exact absurd HA.out (by simp [code_Check.l0])
   | succ k1 =>
    have H := HA.out
    clear HA
    simp only [code_Check.l0] at H
    by_cases c6 : x16_1 < (l0.length : Int)
    ·rw [if_pos c6] at H
     have c6b0 : decide (x16_1 < (l0.length : Int)) = true := decide_eq_true c6
     clear c6
     by_cases c7 : 0 ≤ x16_1
     ·rw [if_pos c7] at H
      have c7b0 : decide (0 ≤ x16_1) = true := decide_eq_true c7
      clear c7
      by_cases c8 : x16_1 < (l0.length : Int)
      ·rw [if_pos c8] at H
       have c8b0 : decide (x16_1 < (l0.length : Int)) = true := decide_eq_true c8
       clear c8
       have HC9 := Aside0.mk H
       clear H
       have p189 : 0 ≤ (x16_1 : Int) := of_decide_eq_true zS
       have q189 : x16_1 < (l0.length : Int) := of_decide_eq_true zS
       obtain ⟨ad189, A189_0, c189_0, A189_2, c189_2, e189, hx189_0, hx189_1, hx189_2, hl189_0, hi189_0, hl189_2, hi189_2⟩ := at_T33 HR0.out x16_1 p189 q189
       cases e189
       replace hx189_0 := (HB.out.cell (World.block_lt_of_cell? w _ hx189_0)).trans hx189_0
       replace hx189_1 := (HB.out.cell (World.block_lt_of_cell? w _ hx189_1)).trans hx189_1
       replace hx189_2 := (HB.out.cell (World.block_lt_of_cell? w _ hx189_2)).trans hx189_2
       have HR189_0 := Aside0.mk hi189_0
       have HC189_0 := Aside0.mk hl189_0
       clear hi189_0 hl189_0
       have HR189_2 := Aside0.mk hi189_2
       have HC189_2 := Aside0.mk hl189_2
       clear hi189_2 hl189_2
       replace p189 := eq_true p189
       replace q189 := eq_true q189
       go_upto_region 7 with (first | ((with_reducible refine gate_dst (N := 4) rfl ?_); (try (refine gate_guard (by rfl) ?_; dsimp only)); refine box_event ?hg (N := 4) ?hd (cs := #[.slice none 0 0, .int .i64 0, .slice none 0 0]) (t := 33) ?hr ?_; (case hd => rfl); (case hg => rfl); (case hr => first | (go_simp; done) | (go_simp; rfl)); intro gb190 hg w10 hbox hb; have n0_ := Aside0.mk (blk_below (g := gb188) (o := .cells #[.int .i64 x189000_1, .int .i64 x189001_1] 26 (0, 0)) (zK BK188.out) hb); have n1_ := Aside0.mk (below_step (zC HB.out GE188.out) hb); have n2_ := Aside0.mk (hbox); have n3_ := Aside0.mk ((by rw [hg]; exact (below_size (zC HB.out GE188.out)) : w.heap.size ≤ gb190)); have n4_ := Aside0.mk ((by rw [hg]; exact (below_size (zC HB.out GE188.out)) : w.heap.size ≤ gb190)); have n5_ := Aside0.mk ((by rw [hg]; exact Nat.ne_of_lt (blk_lt (g := gb188) (o := .cells #[.int .i64 x189000_1, .int .i64 x189001_1] 26 (0, 0)) (zK BK188.out)) : gb188 ≠ gb190)); have n6_ := Aside0.mk ((by rw [hg]; exact Nat.ne_of_gt (blk_lt (g := gb188) (o := .cells #[.int .i64 x189000_1, .int .i64 x189001_1] 26 (0, 0)) (zK BK188.out)) : gb190 ≠ gb188)); clear BK188; clear HB; have BK188 := n0_; have HB := n1_; have BK190 := n2_; have GW190 := n3_; have GE190 := n4_; have NB188_190 := n5_; have NB190_188 := n6_; clear n0_ n1_ n2_ n3_ n4_ n5_ n6_; clear hb hbox hg; have hnb11 := NB190_188.out; have hnc11 := NB188_190.out; have hcz12_0 : w10.cell? ⟨gb190, 0, none⟩ = some (.slice none 0 0) := (blk_cell BK190.out 0).trans rfl; have hcz12_1 : w10.cell? ⟨gb190, 1, none⟩ = some (.int .i64 0) := (blk_cell BK190.out 1).trans rfl; have hcz12_2 : w10.cell? ⟨gb190, 2, none⟩ = some (.slice none 0 0) := (blk_cell BK190.out 2).trans rfl; have hfz12_0 := blk_frozen BK190.out 0; have hfz12_1 := blk_frozen BK190.out 1; have hfz12_2 := blk_frozen BK190.out 2))
       (try simp only [Act.put, List.setIfInBounds_toArray, List.set_cons_zero, List.set_cons_succ])
       go_cut [24] (fun v24 wc => ∃ (kq : Nat) (x24_8 : Bool), v24 = .bool x24_8 ∧ Aside0 (code_Check.j1 kq l0 x16_1 (((rd_T33 l0 x16_1).f2).length : Int) l0 (l0.length : Int) x16_1 x24_8 ((rd_T33 l0 x16_1).f0) ((rd_T33 l0 x16_1).f1) ((rd_T33 l0 x16_1).f2) = some (r1, r2)) ∧ Aside0 (kq ≤ k1) ∧ Aside0 (wc.heap[gb188]? = some (.cells #[.int .i64 x189000_1, .int .i64 x189001_1] 26 (0, 0))) ∧ Aside0 (wc.heap[gb190]? = some (.cells #[(.slice A189_0 ((rd_T33 l0 x16_1).f0).length c189_0), .int .i64 ((rd_T33 l0 x16_1).f1), (.slice A189_2 ((rd_T33 l0 x16_1).f2).length c189_2)] 33 (0, 0))) ∧ Aside0 (Below w.heap.size w wc))
       case first =>
        have H := HC9.out
        clear HC9
        by_cases c13 : ((rd_T33 l0 x16_1).f1) < 1
        ·rw [if_pos c13] at H
         have c13b0 : decide (((rd_T33 l0 x16_1).f1) < 1) = true := decide_eq_true c13
         clear c13
         (first | rw [c13b0] | (simp only [i64_w, i32_w]; rw [c13b0]) | skip)
         have H' := Aside0.mk H
         clear H
         have hnb14 := NB190_188.out
         have hnc14 := NB188_190.out
         have hcz15_0 : w10.cell? ⟨gb190, 0, none⟩ = some (.slice none 0 0) := (blk_cell BK190.out 0).trans rfl
         have hcz15_1 : w10.cell? ⟨gb190, 1, none⟩ = some (.int .i64 0) := (blk_cell BK190.out 1).trans rfl
         have hcz15_2 : w10.cell? ⟨gb190, 2, none⟩ = some (.slice none 0 0) := (blk_cell BK190.out 2).trans rfl
         have hfz15_0 := blk_frozen BK190.out 0
         have hfz15_1 := blk_frozen BK190.out 1
         have hfz15_2 := blk_frozen BK190.out 2
         go_wp2
         go_meet
         case rel => exact ⟨_, (true), (by first | rfl | (simp; done) | (simp [*]; done)), H', ⟨by have := HK1.out; first | omega | exact Nat.le_refl _⟩, ⟨by (with_reducible repeat (first | refine blk_drewN ?_ _ | refine blk_drew ?_ | refine blk_alloc ?_ _)); refine blk_far ?_ NB188_190.out _; (with_reducible repeat (first | refine blk_drewN ?_ _ | refine blk_drew ?_ | refine blk_alloc ?_ _)); refine blk_far ?_ NB188_190.out _; (with_reducible repeat (first | refine blk_drewN ?_ _ | refine blk_drew ?_ | refine blk_alloc ?_ _)); refine blk_far ?_ NB188_190.out _; (with_reducible repeat (first | refine blk_drewN ?_ _ | refine blk_drew ?_ | refine blk_alloc ?_ _)); exact BK188.out⟩, ⟨by (with_reducible repeat (first | refine blk_drewN ?_ _ | refine blk_drew ?_ | refine blk_alloc ?_ _)); refine blk_put (cs := #[.slice A189_0 ((rd_T33 l0 x16_1).f0).length c189_0, .int .i64 ((rd_T33 l0 x16_1).f1), .slice none 0 0]) ?_ 2 _ rfl; (with_reducible repeat (first | refine blk_drewN ?_ _ | refine blk_drew ?_ | refine blk_alloc ?_ _)); refine blk_put (cs := #[.slice A189_0 ((rd_T33 l0 x16_1).f0).length c189_0, .int .i64 0, .slice none 0 0]) ?_ 1 _ rfl; (with_reducible repeat (first | refine blk_drewN ?_ _ | refine blk_drew ?_ | refine blk_alloc ?_ _)); refine blk_put (cs := #[.slice none 0 0, .int .i64 0, .slice none 0 0]) ?_ 0 _ rfl; (with_reducible repeat (first | refine blk_drewN ?_ _ | refine blk_drew ?_ | refine blk_alloc ?_ _)); exact BK190.out⟩, ⟨zD HB.out GE188.out GE190.out⟩⟩
        ·rw [if_neg c13] at H
         have c13b0 : decide (((rd_T33 l0 x16_1).f1) < 1) = false := decide_eq_false c13
         clear c13
         (first | rw [c13b0] | (simp only [i64_w, i32_w]; rw [c13b0]) | skip)
         by_cases c16 : ((rd_T33 l0 x16_1).f1) > 4096
         ·rw [if_pos c16] at H
          have c16b0 : decide (4096 < ((rd_T33 l0 x16_1).f1)) = true := decide_eq_true c16
          clear c16
          have H' := Aside0.mk H
          clear H
          have hnb17 := NB190_188.out
          have hnc17 := NB188_190.out
          have hcz18_0 : w10.cell? ⟨gb190, 0, none⟩ = some (.slice none 0 0) := (blk_cell BK190.out 0).trans rfl
          have hcz18_1 : w10.cell? ⟨gb190, 1, none⟩ = some (.int .i64 0) := (blk_cell BK190.out 1).trans rfl
          have hcz18_2 : w10.cell? ⟨gb190, 2, none⟩ = some (.slice none 0 0) := (blk_cell BK190.out 2).trans rfl
          have hfz18_0 := blk_frozen BK190.out 0
          have hfz18_1 := blk_frozen BK190.out 1
          have hfz18_2 := blk_frozen BK190.out 2
          go_wp2
          go_meet
          case rel => exact ⟨_, (true), (by first | rfl | (simp; done) | (simp [*]; done)), H', ⟨by have := HK1.out; first | omega | exact Nat.le_refl _⟩, ⟨by (with_reducible repeat (first | refine blk_drewN ?_ _ | refine blk_drew ?_ | refine blk_alloc ?_ _)); refine blk_far ?_ NB188_190.out _; (with_reducible repeat (first | refine blk_drewN ?_ _ | refine blk_drew ?_ | refine blk_alloc ?_ _)); refine blk_far ?_ NB188_190.out _; (with_reducible repeat (first | refine blk_drewN ?_ _ | refine blk_drew ?_ | refine blk_alloc ?_ _)); refine blk_far ?_ NB188_190.out _; (with_reducible repeat (first | refine blk_drewN ?_ _ | refine blk_drew ?_ | refine blk_alloc ?_ _)); exact BK188.out⟩, ⟨by (with_reducible repeat (first | refine blk_drewN ?_ _ | refine blk_drew ?_ | refine blk_alloc ?_ _)); refine blk_put (cs := #[.slice A189_0 ((rd_T33 l0 x16_1).f0).length c189_0, .int .i64 ((rd_T33 l0 x16_1).f1), .slice none 0 0]) ?_ 2 _ rfl; (with_reducible repeat (first | refine blk_drewN ?_ _ | refine blk_drew ?_ | refine blk_alloc ?_ _)); refine blk_put (cs := #[.slice A189_0 ((rd_T33 l0 x16_1).f0).length c189_0, .int .i64 0, .slice none 0 0]) ?_ 1 _ rfl; (with_reducible repeat (first | refine blk_drewN ?_ _ | refine blk_drew ?_ | refine blk_alloc ?_ _)); refine blk_put (cs := #[.slice none 0 0, .int .i64 0, .slice none 0 0]) ?_ 0 _ rfl; (with_reducible repeat (first | refine blk_drewN ?_ _ | refine blk_drew ?_ | refine blk_alloc ?_ _)); exact BK190.out⟩, ⟨zD HB.out GE188.out GE190.out⟩⟩
         ·rw [if_neg c16] at H
          have c16b0 : decide (4096 < ((rd_T33 l0 x16_1).f1)) = false := decide_eq_false c16
          clear c16
          by_cases c19 : (((rd_T33 l0 x16_1).f0).length : Int) > 8
          ·rw [if_pos c19] at H
           have c19b0 : decide (8 < (((rd_T33 l0 x16_1).f0).length : Int)) = true := decide_eq_true c19
           have c19b1 : decide (8 < ((rd_T33 l0 x16_1).f0).length) = true := decide_eq_true (by omega)
           clear c19
           have H' := Aside0.mk H
           clear H
           have hnb20 := NB190_188.out
           have hnc20 := NB188_190.out
           have hcz21_0 : w10.cell? ⟨gb190, 0, none⟩ = some (.slice none 0 0) := (blk_cell BK190.out 0).trans rfl
           have hcz21_1 : w10.cell? ⟨gb190, 1, none⟩ = some (.int .i64 0) := (blk_cell BK190.out 1).trans rfl
           have hcz21_2 : w10.cell? ⟨gb190, 2, none⟩ = some (.slice none 0 0) := (blk_cell BK190.out 2).trans rfl
           have hfz21_0 := blk_frozen BK190.out 0
           have hfz21_1 := blk_frozen BK190.out 1
           have hfz21_2 := blk_frozen BK190.out 2
           go_wp2
           go_meet
           case rel => exact ⟨_, (true), (by first | rfl | (simp; done) | (simp [*]; done)), H', ⟨by have := HK1.out; first | omega | exact Nat.le_refl _⟩, ⟨by (with_reducible repeat (first | refine blk_drewN ?_ _ | refine blk_drew ?_ | refine blk_alloc ?_ _)); refine blk_far ?_ NB188_190.out _; (with_reducible repeat (first | refine blk_drewN ?_ _ | refine blk_drew ?_ | refine blk_alloc ?_ _)); refine blk_far ?_ NB188_190.out _; (with_reducible repeat (first | refine blk_drewN ?_ _ | refine blk_drew ?_ | refine blk_alloc ?_ _)); refine blk_far ?_ NB188_190.out _; (with_reducible repeat (first | refine blk_drewN ?_ _ | refine blk_drew ?_ | refine blk_alloc ?_ _)); exact BK188.out⟩, ⟨by (with_reducible repeat (first | refine blk_drewN ?_ _ | refine blk_drew ?_ | refine blk_alloc ?_ _)); refine blk_put (cs := #[.slice A189_0 ((rd_T33 l0 x16_1).f0).length c189_0, .int .i64 ((rd_T33 l0 x16_1).f1), .slice none 0 0]) ?_ 2 _ rfl; (with_reducible repeat (first | refine blk_drewN ?_ _ | refine blk_drew ?_ | refine blk_alloc ?_ _)); refine blk_put (cs := #[.slice A189_0 ((rd_T33 l0 x16_1).f0).length c189_0, .int .i64 0, .slice none 0 0]) ?_ 1 _ rfl; (with_reducible repeat (first | refine blk_drewN ?_ _ | refine blk_drew ?_ | refine blk_alloc ?_ _)); refine blk_put (cs := #[.slice none 0 0, .int .i64 0, .slice none 0 0]) ?_ 0 _ rfl; (with_reducible repeat (first | refine blk_drewN ?_ _ | refine blk_drew ?_ | refine blk_alloc ?_ _)); exact BK190.out⟩, ⟨zD HB.out GE188.out GE190.out⟩⟩
          ·rw [if_neg c19] at H
           have c19b0 : decide (8 < (((rd_T33 l0 x16_1).f0).length : Int)) = false := decide_eq_false c19
           have c19b1 : decide (8 < ((rd_T33 l0 x16_1).f0).length) = false := decide_eq_false (by omega)
           clear c19
           have H' := Aside0.mk H
           clear H
           have hnb22 := NB190_188.out
           have hnc22 := NB188_190.out
           have hcz23_0 : w10.cell? ⟨gb190, 0, none⟩ = some (.slice none 0 0) := (blk_cell BK190.out 0).trans rfl
           have hcz23_1 : w10.cell? ⟨gb190, 1, none⟩ = some (.int .i64 0) := (blk_cell BK190.out 1).trans rfl
           have hcz23_2 : w10.cell? ⟨gb190, 2, none⟩ = some (.slice none 0 0) := (blk_cell BK190.out 2).trans rfl
           have hfz23_0 := blk_frozen BK190.out 0
           have hfz23_1 := blk_frozen BK190.out 1
           have hfz23_2 := blk_frozen BK190.out 2
           go_wp2
           go_meet
           case rel => exact ⟨_, (decide ((((rd_T33 l0 x16_1).f2).length : Int) > 65536)), (by first | rfl | (simp; done) | (simp [*]; done)), H', ⟨by have := HK1.out; first | omega | exact Nat.le_refl _⟩, ⟨by (with_reducible repeat (first | refine blk_drewN ?_ _ | refine blk_drew ?_ | refine blk_alloc ?_ _)); refine blk_far ?_ NB188_190.out _; (with_reducible repeat (first | refine blk_drewN ?_ _ | refine blk_drew ?_ | refine blk_alloc ?_ _)); refine blk_far ?_ NB188_190.out _; (with_reducible repeat (first | refine blk_drewN ?_ _ | refine blk_drew ?_ | refine blk_alloc ?_ _)); refine blk_far ?_ NB188_190.out _; (with_reducible repeat (first | refine blk_drewN ?_ _ | refine blk_drew ?_ | refine blk_alloc ?_ _)); exact BK188.out⟩, ⟨by (with_reducible repeat (first | refine blk_drewN ?_ _ | refine blk_drew ?_ | refine blk_alloc ?_ _)); refine blk_put (cs := #[.slice A189_0 ((rd_T33 l0 x16_1).f0).length c189_0, .int .i64 ((rd_T33 l0 x16_1).f1), .slice none 0 0]) ?_ 2 _ rfl; (with_reducible repeat (first | refine blk_drewN ?_ _ | refine blk_drew ?_ | refine blk_alloc ?_ _)); refine blk_put (cs := #[.slice A189_0 ((rd_T33 l0 x16_1).f0).length c189_0, .int .i64 0, .slice none 0 0]) ?_ 1 _ rfl; (with_reducible repeat (first | refine blk_drewN ?_ _ | refine blk_drew ?_ | refine blk_alloc ?_ _)); refine blk_put (cs := #[.slice none 0 0, .int .i64 0, .slice none 0 0]) ?_ 0 _ rfl; (with_reducible repeat (first | refine blk_drewN ?_ _ | refine blk_drew ?_ | refine blk_alloc ?_ _)); exact BK190.out⟩, ⟨zD HB.out GE188.out GE190.out⟩⟩
       case rest =>
        clear HC9
        try clear c1
        try clear p1
        try clear q1
        try clear hx1
        try clear c2
        try clear c2b0
        try clear c2b1
        try clear p2
        try clear c3
        try clear c6
        try clear c6b0
        try clear c7
        try clear c7b0
        try clear c8
        try clear c8b0
        try clear c11
        try clear c13
        try clear c13b0
        try clear c14
        try clear c16
        try clear c16b0
        try clear c17
        try clear c18
        try clear p18
        try clear q18
        try clear hx18
        try clear c19
        try clear c19b0
        try clear c19b1
        try clear c20
        try clear c22
        try clear hcz12_0
        try clear hcz12_1
        try clear hcz12_2
        try clear hcz15_0
        try clear hcz15_1
        try clear hcz15_2
        try clear hcz18_0
        try clear hcz18_1
        try clear hcz18_2
        try clear hcz21_0
        try clear hcz21_1
        try clear hcz21_2
        try clear hcz23_0
        try clear hcz23_1
        try clear hcz23_2
        try clear hcz4_0
        try clear hcz4_1
        try clear hfz12_0
        try clear hfz12_1
        try clear hfz12_2
        try clear hfz15_0
        try clear hfz15_1
        try clear hfz15_2
        try clear hfz18_0
        try clear hfz18_1
        try clear hfz18_2
        try clear hfz21_0
        try clear hfz21_1
        try clear hfz21_2
        try clear hfz23_0
        try clear hfz23_1
        try clear hfz23_2
        try clear hfz4_0
        try clear hfz4_1
        try clear hx189_0
        try clear hx189_1
        try clear hx189_2
        try clear p189
        try clear p2
        try clear q189
        obtain ⟨kq, x24_8, rfl, HA, HJ8, BK188, BK190, HB⟩ := hcut
        cases kq with
        | zero => exact absurd HA.out (by simp [code_Check.j1])
        | succ kj8 =>
         have H := HA.out
         clear HA
         simp only [code_Check.j1] at H
         by_cases c24 : x24_8 = true
         ·subst c24
          have H1 : (some (6, x16_1)) = some (r1, r2) := by rw [if_pos rfl] at H; exact H
          clear H
          have H := H1
          clear H1
          simp only [Option.some.injEq, Prod.mk.injEq] at H
          obtain ⟨rfl, rfl⟩ := H
          have hnb25 := NB188_190.out
          have hnc25 := NB190_188.out
          have hcz26_0 : wc.cell? ⟨gb188, 0, none⟩ = some (.int .i64 x189000_1) := (blk_cell BK188.out 0).trans rfl
          have hcz26_1 : wc.cell? ⟨gb188, 1, none⟩ = some (.int .i64 x189001_1) := (blk_cell BK188.out 1).trans rfl
          have hfz26_0 := blk_frozen BK188.out 0
          have hfz26_1 := blk_frozen BK188.out 1
          go_wp2
          refine bodyPost_ret (results_cell_row rfl _ _ gb188 26 #[.int .i64 6, .int .i64 x16_1] (0, 0) _ rfl (by (with_reducible repeat (first | refine blk_drewN ?_ _ | refine blk_drew ?_ | refine blk_alloc ?_ _)); refine blk_put (cs := #[.int .i64 6, .int .i64 x189001_1]) ?_ 1 _ rfl; (with_reducible repeat (first | refine blk_drewN ?_ _ | refine blk_drew ?_ | refine blk_alloc ?_ _)); refine blk_put (cs := #[.int .i64 x189000_1, .int .i64 x189001_1]) ?_ 0 _ rfl; (with_reducible repeat (first | refine blk_drewN ?_ _ | refine blk_drew ?_ | refine blk_alloc ?_ _)); exact BK188.out) Try.underlying26 rfl (by kernel_rfl)) rfl ?_
          exact ⟨zF, zD HB.out GE188.out GE190.out⟩
         ·replace c24 := Bool.eq_false_iff.mpr c24
          subst c24
          have H1 : (if (((rd_T33 l0 x16_1).f2).length : Int) = 0 then (code_Check.j2 kj8 l0 x16_1 (((rd_T33 l0 x16_1).f2).length : Int) l0 (l0.length : Int) x16_1 true ((rd_T33 l0 x16_1).f0) ((rd_T33 l0 x16_1).f1) ((rd_T33 l0 x16_1).f2)) else (if 0 ≤ (wrap64 ((((rd_T33 l0 x16_1).f2).length : Int) - 1)) then (if (wrap64 ((((rd_T33 l0 x16_1).f2).length : Int) - 1)) < (((rd_T33 l0 x16_1).f2).length : Int) then ((code_ends.f ((rd_T37 ((rd_T33 l0 x16_1).f2) (wrap64 ((((rd_T33 l0 x16_1).f2).length : Int) - 1))).f0)).bind fun t192 => (code_Check.j2 kj8 l0 x16_1 (((rd_T33 l0 x16_1).f2).length : Int) l0 (l0.length : Int) x16_1 (!t192) ((rd_T33 l0 x16_1).f0) ((rd_T33 l0 x16_1).f1) ((rd_T33 l0 x16_1).f2))) else (none)) else (none))) = some (r1, r2) := by rw [if_neg (show ¬ (false = true) by decide)] at H; exact H
          clear H
          have H := H1
          clear H1
          have HC27 := Aside0.mk H
          clear H
          go_upto_region 9 with (fail)
          go_cut [45] (fun v45 wc => ∃ (kq : Nat) (x45_26 : Bool), v45 = .bool x45_26 ∧ Aside0 (code_Check.j2 kq l0 x16_1 (((rd_T33 l0 x16_1).f2).length : Int) l0 (l0.length : Int) x16_1 x45_26 ((rd_T33 l0 x16_1).f0) ((rd_T33 l0 x16_1).f1) ((rd_T33 l0 x16_1).f2) = some (r1, r2)) ∧ Aside0 (kq ≤ kj8) ∧ Aside0 (wc.heap[gb188]? = some (.cells #[.int .i64 x189000_1, .int .i64 x189001_1] 26 (0, 0))) ∧ Aside0 (wc.heap[gb190]? = some (.cells #[(.slice A189_0 ((rd_T33 l0 x16_1).f0).length c189_0), .int .i64 ((rd_T33 l0 x16_1).f1), (.slice A189_2 ((rd_T33 l0 x16_1).f2).length c189_2)] 33 (0, 0))) ∧ Aside0 (Below w.heap.size w wc))
          case first =>
           have H := HC27.out
           clear HC27
           by_cases c28 : (((rd_T33 l0 x16_1).f2).length : Int) = 0
           ·rw [if_pos c28] at H
            have c28b0 : ((((rd_T33 l0 x16_1).f2).length : Int) == 0) = true := beq_iff_eq.mpr c28
            have c28b1 : ((((rd_T33 l0 x16_1).f2).length : Int) != 0) = false := bne_eq_false_iff_eq.mpr c28
            clear c28
            (first | rw [c28b0] | (simp only [i64_w, i32_w]; rw [c28b0]) | skip)
            have H' := Aside0.mk H
            clear H
            go_wp2
            go_meet
            case rel => exact ⟨_, (true), (by first | rfl | (simp; done) | (simp [*]; done)), H', ⟨by have := HK1.out; have := HJ8.out; first | omega | exact Nat.le_refl _⟩, ⟨zK BK188.out⟩, ⟨zK BK190.out⟩, ⟨zD HB.out GE188.out GE190.out⟩⟩
           ·rw [if_neg c28] at H
            have c28b0 : ((((rd_T33 l0 x16_1).f2).length : Int) == 0) = false := beq_eq_false_iff_ne.mpr c28
            have c28b1 : ((((rd_T33 l0 x16_1).f2).length : Int) != 0) = true := bne_iff_ne.mpr c28
            have c28b2 : ¬ (((rd_T33 l0 x16_1).f2) = []) := fun h_ => c28 (by rw [h_]; rfl)
            (first | rw [c28b0] | (simp only [i64_w, i32_w]; rw [c28b0]) | skip)
            obtain ⟨ji29, hji29⟩ : ∃ j_ : Int, (wrap64 ((((rd_T33 l0 x16_1).f2).length : Int) - 1)) = j_ := ⟨_, rfl⟩
            replace H : (if 0 ≤ (ji29) then (if (ji29) < (((rd_T33 l0 x16_1).f2).length : Int) then ((code_ends.f ((rd_T37 ((rd_T33 l0 x16_1).f2) (ji29)).f0)).bind fun t192 => (code_Check.j2 kj8 l0 x16_1 (((rd_T33 l0 x16_1).f2).length : Int) l0 (l0.length : Int) x16_1 (!t192) ((rd_T33 l0 x16_1).f0) ((rd_T33 l0 x16_1).f1) ((rd_T33 l0 x16_1).f2))) else (none)) else (none)) = some (r1, r2) := by first | (rw [hji29] at H; exact H) | (simp only [hji29] at H ⊢; exact H)
            have hji29w : (IntKind.i64.wrap ((((rd_T33 l0 x16_1).f2).length : Int) - 1)) = ji29 := (i64_w _).trans hji29
            by_cases c30 : 0 ≤ (ji29)
            ·rw [if_pos c30] at H
             have c30b0 : decide (0 ≤ (ji29)) = true := decide_eq_true c30
             clear c30
             by_cases c31 : (ji29) < (((rd_T33 l0 x16_1).f2).length : Int)
             ·rw [if_pos c31] at H
              have c31b0 : decide ((ji29) < (((rd_T33 l0 x16_1).f2).length : Int)) = true := decide_eq_true c31
              clear c31
              replace H := Option.bind_eq_some_iff.mp H
              obtain ⟨t192, A320, H⟩ := H
              replace H : (code_Check.j2 kj8 l0 x16_1 (((rd_T33 l0 x16_1).f2).length : Int) l0 (l0.length : Int) x16_1 (!t192) ((rd_T33 l0 x16_1).f0) ((rd_T33 l0 x16_1).f1) ((rd_T33 l0 x16_1).f2)) = some (r1, r2) := H
              have A32 := Aside0.mk A320
              clear A320
              have H' := Aside0.mk H
              clear H
              have hnb33 := NB190_188.out
              have hnc33 := NB188_190.out
              have hcz34_0 : wc.cell? ⟨gb190, 0, none⟩ = some (.slice A189_0 ((rd_T33 l0 x16_1).f0).length c189_0) := (blk_cell BK190.out 0).trans rfl
              have hcz34_1 : wc.cell? ⟨gb190, 1, none⟩ = some (.int .i64 ((rd_T33 l0 x16_1).f1)) := (blk_cell BK190.out 1).trans rfl
              have hcz34_2 : wc.cell? ⟨gb190, 2, none⟩ = some (.slice A189_2 ((rd_T33 l0 x16_1).f2).length c189_2) := (blk_cell BK190.out 2).trans rfl
              have hfz34_0 := blk_frozen BK190.out 0
              have hfz34_1 := blk_frozen BK190.out 1
              have hfz34_2 := blk_frozen BK190.out 2
              have p191 : 0 ≤ ((ji29) : Int) := of_decide_eq_true zS
              have q191 : (ji29) < (((rd_T33 l0 x16_1).f2).length : Int) := of_decide_eq_true zS
              obtain ⟨ad191, A191_5, c191_5, e191, hx191_0, hx191_1, hx191_2, hx191_3, hx191_4, hx191_5, hx191_6, hx191_7, hl191_5, hi191_5⟩ := at_T37 HR189_2.out (ji29) p191 q191
              cases e191
              replace hx191_0 := (HB.out.cell (World.block_lt_of_cell? w _ hx191_0)).trans hx191_0
              replace hx191_1 := (HB.out.cell (World.block_lt_of_cell? w _ hx191_1)).trans hx191_1
              replace hx191_2 := (HB.out.cell (World.block_lt_of_cell? w _ hx191_2)).trans hx191_2
              replace hx191_3 := (HB.out.cell (World.block_lt_of_cell? w _ hx191_3)).trans hx191_3
              replace hx191_4 := (HB.out.cell (World.block_lt_of_cell? w _ hx191_4)).trans hx191_4
              replace hx191_5 := (HB.out.cell (World.block_lt_of_cell? w _ hx191_5)).trans hx191_5
              replace hx191_6 := (HB.out.cell (World.block_lt_of_cell? w _ hx191_6)).trans hx191_6
              replace hx191_7 := (HB.out.cell (World.block_lt_of_cell? w _ hx191_7)).trans hx191_7
              have HR191_5 := Aside0.mk hi191_5
              have HC191_5 := Aside0.mk hl191_5
              clear hi191_5 hl191_5
              replace p191 := eq_true p191
              replace q191 := eq_true q191
              go_wp2_with (first | (go_at_call 61; (with_reducible refine (code_ends.calls ((rd_T37 ((rd_T33 l0 x16_1).f2) (ji29)).f0) t192 _ A32.out).mono ?_); rintro e w' ⟨rfl, ⟨nd, rfl⟩⟩))
              go_meet
              case rel => exact ⟨_, (!t192), (by first | rfl | (simp; done) | (simp [*]; done)), H', ⟨by have := HK1.out; have := HJ8.out; first | omega | exact Nat.le_refl _⟩, ⟨zK BK188.out⟩, ⟨zK BK190.out⟩, ⟨zD HB.out GE188.out GE190.out⟩⟩
             ·rw [if_neg c31] at H
              exact absurd H (by simp)
            ·rw [if_neg c30] at H
             exact absurd H (by simp)
          case rest =>
           clear HC27
           try clear c1
           try clear p1
           try clear q1
           try clear hx1
           try clear c2
           try clear c2b0
           try clear c2b1
           try clear p2
           try clear c3
           try clear c6
           try clear c6b0
           try clear p6
           try clear c7
           try clear c7b0
           try clear c8
           try clear c8b0
           try clear c11
           try clear c13
           try clear c13b0
           try clear c14
           try clear c16
           try clear c16b0
           try clear c17
           try clear c18
           try clear p18
           try clear q18
           try clear hx18
           try clear c19
           try clear c19b0
           try clear c19b1
           try clear p19
           try clear q19
           try clear hx19
           try clear c20
           try clear c22
           try clear c24
           try clear c25
           try clear c28
           try clear c28b0
           try clear c28b1
           try clear c28b2
           try clear c30
           try clear c30b0
           try clear c31
           try clear c31b0
           try clear c33
           try clear hcz12_0
           try clear hcz12_1
           try clear hcz12_2
           try clear hcz15_0
           try clear hcz15_1
           try clear hcz15_2
           try clear hcz18_0
           try clear hcz18_1
           try clear hcz18_2
           try clear hcz21_0
           try clear hcz21_1
           try clear hcz21_2
           try clear hcz23_0
           try clear hcz23_1
           try clear hcz23_2
           try clear hcz26_0
           try clear hcz26_1
           try clear hcz34_0
           try clear hcz34_1
           try clear hcz34_2
           try clear hcz4_0
           try clear hcz4_1
           try clear hfz12_0
           try clear hfz12_1
           try clear hfz12_2
           try clear hfz15_0
           try clear hfz15_1
           try clear hfz15_2
           try clear hfz18_0
           try clear hfz18_1
           try clear hfz18_2
           try clear hfz21_0
           try clear hfz21_1
           try clear hfz21_2
           try clear hfz23_0
           try clear hfz23_1
           try clear hfz23_2
           try clear hfz26_0
           try clear hfz26_1
           try clear hfz34_0
           try clear hfz34_1
           try clear hfz34_2
           try clear hfz4_0
           try clear hfz4_1
           try clear hx189_0
           try clear hx189_1
           try clear hx189_2
           try clear hx191_0
           try clear hx191_1
           try clear hx191_2
           try clear hx191_3
           try clear hx191_4
           try clear hx191_5
           try clear hx191_6
           try clear hx191_7
           try clear p1
           try clear p18
           try clear p189
           try clear p191
           try clear p2
           try clear q1
           try clear q18
           try clear q189
           try clear q191
           obtain ⟨kq, x45_26, rfl, HA, HJ26, BK188, BK190, HB⟩ := hcut
           cases kq with
           | zero => exact absurd HA.out (by simp [code_Check.j2])
           | succ kj26 =>
            have H := HA.out
            clear HA
            simp only [code_Check.j2] at H
            by_cases c35 : x45_26 = true
            ·subst c35
             have H1 : (some (15, x16_1)) = some (r1, r2) := by rw [if_pos rfl] at H; exact H
             clear H
             have H := H1
             clear H1
             simp only [Option.some.injEq, Prod.mk.injEq] at H
             obtain ⟨rfl, rfl⟩ := H
             have hnb36 := NB188_190.out
             have hnc36 := NB190_188.out
             have hcz37_0 : wc.cell? ⟨gb188, 0, none⟩ = some (.int .i64 x189000_1) := (blk_cell BK188.out 0).trans rfl
             have hcz37_1 : wc.cell? ⟨gb188, 1, none⟩ = some (.int .i64 x189001_1) := (blk_cell BK188.out 1).trans rfl
             have hfz37_0 := blk_frozen BK188.out 0
             have hfz37_1 := blk_frozen BK188.out 1
             go_wp2
             refine bodyPost_ret (results_cell_row rfl _ _ gb188 26 #[.int .i64 15, .int .i64 x16_1] (0, 0) _ rfl (by (with_reducible repeat (first | refine blk_drewN ?_ _ | refine blk_drew ?_ | refine blk_alloc ?_ _)); refine blk_put (cs := #[.int .i64 15, .int .i64 x189001_1]) ?_ 1 _ rfl; (with_reducible repeat (first | refine blk_drewN ?_ _ | refine blk_drew ?_ | refine blk_alloc ?_ _)); refine blk_put (cs := #[.int .i64 x189000_1, .int .i64 x189001_1]) ?_ 0 _ rfl; (with_reducible repeat (first | refine blk_drewN ?_ _ | refine blk_drew ?_ | refine blk_alloc ?_ _)); exact BK188.out) Try.underlying26 rfl (by kernel_rfl)) rfl ?_
             exact ⟨zF, zD HB.out GE188.out GE190.out⟩
            ·replace c35 := Bool.eq_false_iff.mpr c35
             subst c35
             have H1 : (if (((rd_T33 l0 x16_1).f0).any (offB ((rd_T33 l0 x16_1).f1))) = true then (some (8, x16_1)) else (code_Check.l1 kj26 l0 x16_1 (((rd_T33 l0 x16_1).f2).length : Int) l0 (l0.length : Int) x16_1 ((rd_T33 l0 x16_1).f2) (((rd_T33 l0 x16_1).f2).length : Int) 0 ((rd_T33 l0 x16_1).f0) ((rd_T33 l0 x16_1).f1) ((rd_T33 l0 x16_1).f2))) = some (r1, r2) := by rw [if_neg (show ¬ (false = true) by decide)] at H; exact H
             clear H
             have H := H1
             clear H1
             by_cases c38 : (((rd_T33 l0 x16_1).f0).any (offB ((rd_T33 l0 x16_1).f1))) = true
             ·rw [if_pos c38] at H
              have c38b0 : (((rd_T33 l0 x16_1).f0).any (offB ((rd_T33 l0 x16_1).f1))) = true := c38
              clear c38
              simp only [Option.some.injEq, Prod.mk.injEq] at H
              obtain ⟨rfl, rfl⟩ := H
              have hnb39 := NB190_188.out
              have hnc39 := NB188_190.out
              have hcz40_0 : wc.cell? ⟨gb190, 0, none⟩ = some (.slice A189_0 ((rd_T33 l0 x16_1).f0).length c189_0) := (blk_cell BK190.out 0).trans rfl
              have hcz40_1 : wc.cell? ⟨gb190, 1, none⟩ = some (.int .i64 ((rd_T33 l0 x16_1).f1)) := (blk_cell BK190.out 1).trans rfl
              have hcz40_2 : wc.cell? ⟨gb190, 2, none⟩ = some (.slice A189_2 ((rd_T33 l0 x16_1).f2).length c189_2) := (blk_cell BK190.out 2).trans rfl
              have hfz40_0 := blk_frozen BK190.out 0
              have hfz40_1 := blk_frozen BK190.out 1
              have hfz40_2 := blk_frozen BK190.out 2
              have hcz41_0 : wc.cell? ⟨gb188, 0, none⟩ = some (.int .i64 x189000_1) := (blk_cell BK188.out 0).trans rfl
              have hcz41_1 : wc.cell? ⟨gb188, 1, none⟩ = some (.int .i64 x189001_1) := (blk_cell BK188.out 1).trans rfl
              have hfz41_0 := blk_frozen BK188.out 0
              have hfz41_1 := blk_frozen BK188.out 1
              go_wp2_with (first | (go_at_call 62; (refine (contains_one ((rd_T33 l0 x16_1).f0) _ _ ((rd_T33 l0 x16_1).f1) gb190 _ ?side1 ?side2).mono ?_); (case side1 => repeat (first | exact (Kd.C_below HR189_0.out HB.out) | (with_reducible refine Kd.C_alloc ?_ _) | (with_reducible refine Kd.C_drewN ?_ _) | (with_reducible refine Kd.C_drew ?_))); (case side2 => exact (blk_cell (zK BK190.out) 1).trans rfl); rintro e w' ⟨rfl, rfl⟩))
              refine bodyPost_ret (results_cell_row rfl _ _ gb188 26 #[.int .i64 8, .int .i64 x16_1] (0, 0) _ rfl (by (with_reducible repeat (first | refine blk_drewN ?_ _ | refine blk_drew ?_ | refine blk_alloc ?_ _)); refine blk_put (cs := #[.int .i64 8, .int .i64 x189001_1]) ?_ 1 _ rfl; (with_reducible repeat (first | refine blk_drewN ?_ _ | refine blk_drew ?_ | refine blk_alloc ?_ _)); refine blk_put (cs := #[.int .i64 x189000_1, .int .i64 x189001_1]) ?_ 0 _ rfl; (with_reducible repeat (first | refine blk_drewN ?_ _ | refine blk_drew ?_ | refine blk_alloc ?_ _)); exact BK188.out) Try.underlying26 rfl (by kernel_rfl)) rfl ?_
              exact ⟨zF, zD HB.out GE188.out GE190.out⟩
             ·rw [if_neg c38] at H
              have c38b0 : (((rd_T33 l0 x16_1).f0).any (offB ((rd_T33 l0 x16_1).f1))) = false := by simpa using c38
              clear c38
              have H' := Aside0.mk H
              clear H
              have hnb42 := NB190_188.out
              have hnc42 := NB188_190.out
              have hcz43_0 : wc.cell? ⟨gb190, 0, none⟩ = some (.slice A189_0 ((rd_T33 l0 x16_1).f0).length c189_0) := (blk_cell BK190.out 0).trans rfl
              have hcz43_1 : wc.cell? ⟨gb190, 1, none⟩ = some (.int .i64 ((rd_T33 l0 x16_1).f1)) := (blk_cell BK190.out 1).trans rfl
              have hcz43_2 : wc.cell? ⟨gb190, 2, none⟩ = some (.slice A189_2 ((rd_T33 l0 x16_1).f2).length c189_2) := (blk_cell BK190.out 2).trans rfl
              have hfz43_0 := blk_frozen BK190.out 0
              have hfz43_1 := blk_frozen BK190.out 1
              have hfz43_2 := blk_frozen BK190.out 2
              go_wp2_with (first | (go_at_call 62; (refine (contains_one ((rd_T33 l0 x16_1).f0) _ _ ((rd_T33 l0 x16_1).f1) gb190 _ ?side1 ?side2).mono ?_); (case side1 => repeat (first | exact (Kd.C_below HR189_0.out HB.out) | (with_reducible refine Kd.C_alloc ?_ _) | (with_reducible refine Kd.C_drewN ?_ _) | (with_reducible refine Kd.C_drew ?_))); (case side2 => exact (blk_cell (zK BK190.out) 1).trans rfl); rintro e w' ⟨rfl, rfl⟩))
              go_loopg [71] kj26 (fun kq v71 w' => ∃ (x71_4 : Int) (x189000_4 : Int) (x189001_4 : Int), v71 = .int .i64 x71_4 ∧ Aside0 (code_Check.l1 kq l0 x16_1 (((rd_T33 l0 x16_1).f2).length : Int) l0 (l0.length : Int) x16_1 ((rd_T33 l0 x16_1).f2) (((rd_T33 l0 x16_1).f2).length : Int) x71_4 ((rd_T33 l0 x16_1).f0) ((rd_T33 l0 x16_1).f1) ((rd_T33 l0 x16_1).f2) = some (r1, r2)) ∧ Aside0 (kq ≤ kj26) ∧ Aside0 (w'.heap[gb188]? = some (.cells #[.int .i64 x189000_4, .int .i64 x189001_4] 26 (0, 0))) ∧ Aside0 (w'.heap[gb190]? = some (.cells #[(.slice A189_0 ((rd_T33 l0 x16_1).f0).length c189_0), .int .i64 ((rd_T33 l0 x16_1).f1), (.slice A189_2 ((rd_T33 l0 x16_1).f2).length c189_2)] 33 (0, 0))) ∧ Aside0 (Below w.heap.size w w'))
              case atStart => exact ⟨(0), (x189000_1), (x189001_1), (by first | rfl | (simp; done) | (simp [*]; done)), H', ⟨Nat.le_refl _⟩, ⟨zK BK188.out⟩, ⟨zK BK190.out⟩, ⟨zD HB.out GE188.out GE190.out⟩⟩
              case round =>
               clear H'
               try clear c1
               try clear p1
               try clear q1
               try clear hx1
               try clear c2
               try clear c2b0
               try clear c2b1
               try clear p2
               try clear c3
               try clear c4
               try clear c6
               try clear c6b0
               try clear p6
               try clear c7
               try clear c7b0
               try clear c8
               try clear c8b0
               try clear c11
               try clear c13
               try clear c13b0
               try clear c14
               try clear c16
               try clear c16b0
               try clear c17
               try clear c18
               try clear p18
               try clear q18
               try clear hx18
               try clear c19
               try clear c19b0
               try clear c19b1
               try clear p19
               try clear q19
               try clear hx19
               try clear c20
               try clear c22
               try clear c24
               try clear c25
               try clear c28
               try clear c28b0
               try clear c28b1
               try clear c28b2
               try clear c30
               try clear c30b0
               try clear c31
               try clear c31b0
               try clear c33
               try clear c35
               try clear c36
               try clear c38
               try clear c38b0
               try clear c39
               try clear c42
               try clear hcz12_0
               try clear hcz12_1
               try clear hcz12_2
               try clear hcz15_0
               try clear hcz15_1
               try clear hcz15_2
               try clear hcz18_0
               try clear hcz18_1
               try clear hcz18_2
               try clear hcz21_0
               try clear hcz21_1
               try clear hcz21_2
               try clear hcz23_0
               try clear hcz23_1
               try clear hcz23_2
               try clear hcz26_0
               try clear hcz26_1
               try clear hcz34_0
               try clear hcz34_1
               try clear hcz34_2
               try clear hcz37_0
               try clear hcz37_1
               try clear hcz40_0
               try clear hcz40_1
               try clear hcz40_2
               try clear hcz41_0
               try clear hcz41_1
               try clear hcz43_0
               try clear hcz43_1
               try clear hcz43_2
               try clear hcz4_0
               try clear hcz4_1
               try clear hfz12_0
               try clear hfz12_1
               try clear hfz12_2
               try clear hfz15_0
               try clear hfz15_1
               try clear hfz15_2
               try clear hfz18_0
               try clear hfz18_1
               try clear hfz18_2
               try clear hfz21_0
               try clear hfz21_1
               try clear hfz21_2
               try clear hfz23_0
               try clear hfz23_1
               try clear hfz23_2
               try clear hfz26_0
               try clear hfz26_1
               try clear hfz34_0
               try clear hfz34_1
               try clear hfz34_2
               try clear hfz37_0
               try clear hfz37_1
               try clear hfz40_0
               try clear hfz40_1
               try clear hfz40_2
               try clear hfz41_0
               try clear hfz41_1
               try clear hfz43_0
               try clear hfz43_1
               try clear hfz43_2
               try clear hfz4_0
               try clear hfz4_1
               try clear hx189_0
               try clear hx189_1
               try clear hx189_2
               try clear hx191_0
               try clear hx191_1
               try clear hx191_2
               try clear hx191_3
               try clear hx191_4
               try clear hx191_5
               try clear hx191_6
               try clear hx191_7
               try clear p1
               try clear p18
               try clear p189
               try clear p19
               try clear p191
               try clear p2
               try clear p6
               try clear q1
               try clear q18
               try clear q189
               try clear q19
               try clear q191
               obtain ⟨x71_4, x189000_4, x189001_4, rfl, HA, HK4, BK188, BK190, HB⟩ := hrel
               cases gk with
               | zero => exact absurd HA.out (by simp [code_Check.l1])
               | succ k4 =>
                have H := HA.out
                clear HA
                simp only [code_Check.l1] at H
                by_cases c44 : x71_4 < (((rd_T33 l0 x16_1).f2).length : Int)
                ·rw [if_pos c44] at H
                 have c44b0 : decide (x71_4 < (((rd_T33 l0 x16_1).f2).length : Int)) = true := decide_eq_true c44
                 clear c44
                 by_cases c45 : 0 ≤ x71_4
                 ·rw [if_pos c45] at H
                  have c45b0 : decide (0 ≤ x71_4) = true := decide_eq_true c45
                  clear c45
                  by_cases c46 : x71_4 < (((rd_T33 l0 x16_1).f2).length : Int)
                  ·rw [if_pos c46] at H
                   have c46b0 : decide (x71_4 < (((rd_T33 l0 x16_1).f2).length : Int)) = true := decide_eq_true c46
                   clear c46
                   replace H := Option.bind_eq_some_iff.mp H
                   obtain ⟨t195, A470, H⟩ := H
                   replace H : (if t195 = true then (code_Check.l1 k4 l0 x16_1 (((rd_T33 l0 x16_1).f2).length : Int) l0 (l0.length : Int) x16_1 ((rd_T33 l0 x16_1).f2) (((rd_T33 l0 x16_1).f2).length : Int) (wrap64 (x71_4 + 1)) ((rd_T33 l0 x16_1).f0) ((rd_T33 l0 x16_1).f1) ((rd_T33 l0 x16_1).f2)) else (some (2, x16_1))) = some (r1, r2) := H
                   have A47 := Aside0.mk A470
                   clear A470
                   by_cases c48 : t195 = true
                   ·subst c48
                    have H1 : (code_Check.l1 k4 l0 x16_1 (((rd_T33 l0 x16_1).f2).length : Int) l0 (l0.length : Int) x16_1 ((rd_T33 l0 x16_1).f2) (((rd_T33 l0 x16_1).f2).length : Int) (wrap64 (x71_4 + 1)) ((rd_T33 l0 x16_1).f0) ((rd_T33 l0 x16_1).f1) ((rd_T33 l0 x16_1).f2)) = some (r1, r2) := by rw [if_pos rfl] at H; exact H
                    clear H
                    have H := H1
                    clear H1
                    have H' := Aside0.mk H
                    clear H
                    have p193 : 0 ≤ (x71_4 : Int) := of_decide_eq_true zS
                    have q193 : x71_4 < (((rd_T33 l0 x16_1).f2).length : Int) := of_decide_eq_true zS
                    obtain ⟨ad193, A193_5, c193_5, e193, hx193_0, hx193_1, hx193_2, hx193_3, hx193_4, hx193_5, hx193_6, hx193_7, hl193_5, hi193_5⟩ := at_T37 HR189_2.out x71_4 p193 q193
                    cases e193
                    replace hx193_0 := (HB.out.cell (World.block_lt_of_cell? w _ hx193_0)).trans hx193_0
                    replace hx193_1 := (HB.out.cell (World.block_lt_of_cell? w _ hx193_1)).trans hx193_1
                    replace hx193_2 := (HB.out.cell (World.block_lt_of_cell? w _ hx193_2)).trans hx193_2
                    replace hx193_3 := (HB.out.cell (World.block_lt_of_cell? w _ hx193_3)).trans hx193_3
                    replace hx193_4 := (HB.out.cell (World.block_lt_of_cell? w _ hx193_4)).trans hx193_4
                    replace hx193_5 := (HB.out.cell (World.block_lt_of_cell? w _ hx193_5)).trans hx193_5
                    replace hx193_6 := (HB.out.cell (World.block_lt_of_cell? w _ hx193_6)).trans hx193_6
                    replace hx193_7 := (HB.out.cell (World.block_lt_of_cell? w _ hx193_7)).trans hx193_7
                    have HR193_5 := Aside0.mk hi193_5
                    have HC193_5 := Aside0.mk hl193_5
                    clear hi193_5 hl193_5
                    replace p193 := eq_true p193
                    replace q193 := eq_true q193
                    go_wp2_with (first | ((with_reducible refine gate_dst (N := 7) rfl ?_); (try (refine gate_guard (by rfl) ?_; dsimp only)); refine box_event ?hg (N := 7) ?hd (cs := #[.int .i64 0, .int .i64 0, .int .i64 0, .int .i64 0, .int .i64 0, .slice none 0 0, .int .i64 0, .int .i64 0]) (t := 37) ?hr ?_; (case hd => rfl); (case hg => rfl); (case hr => first | (go_simp; done) | (go_simp; rfl)); intro gb194 hg w49 hbox hb; have n0_ := Aside0.mk (blk_below (g := gb188) (o := .cells #[.int .i64 x189000_4, .int .i64 x189001_4] 26 (0, 0)) (zK BK188.out) hb); have n1_ := Aside0.mk (blk_below (g := gb190) (o := .cells #[.slice A189_0 ((rd_T33 l0 x16_1).f0).length c189_0, .int .i64 ((rd_T33 l0 x16_1).f1), .slice (some ad193) ((rd_T33 l0 x16_1).f2).length c189_2] 33 (0, 0)) (zK BK190.out) hb); have n2_ := Aside0.mk (below_step (zD HB.out GE188.out GE190.out) hb); have n3_ := Aside0.mk (hbox); have n4_ := Aside0.mk ((by rw [hg]; exact (below_size (zD HB.out GE188.out GE190.out)) : w.heap.size ≤ gb194)); have n5_ := Aside0.mk ((by rw [hg]; exact (below_size (zD HB.out GE188.out GE190.out)) : w.heap.size ≤ gb194)); have n6_ := Aside0.mk ((by rw [hg]; exact Nat.ne_of_lt (blk_lt (g := gb188) (o := .cells #[.int .i64 x189000_4, .int .i64 x189001_4] 26 (0, 0)) (zK BK188.out)) : gb188 ≠ gb194)); have n7_ := Aside0.mk ((by rw [hg]; exact Nat.ne_of_gt (blk_lt (g := gb188) (o := .cells #[.int .i64 x189000_4, .int .i64 x189001_4] 26 (0, 0)) (zK BK188.out)) : gb194 ≠ gb188)); have n8_ := Aside0.mk ((by rw [hg]; exact Nat.ne_of_lt (blk_lt (g := gb190) (o := .cells #[.slice A189_0 ((rd_T33 l0 x16_1).f0).length c189_0, .int .i64 ((rd_T33 l0 x16_1).f1), .slice (some ad193) ((rd_T33 l0 x16_1).f2).length c189_2] 33 (0, 0)) (zK BK190.out)) : gb190 ≠ gb194)); have n9_ := Aside0.mk ((by rw [hg]; exact Nat.ne_of_gt (blk_lt (g := gb190) (o := .cells #[.slice A189_0 ((rd_T33 l0 x16_1).f0).length c189_0, .int .i64 ((rd_T33 l0 x16_1).f1), .slice (some ad193) ((rd_T33 l0 x16_1).f2).length c189_2] 33 (0, 0)) (zK BK190.out)) : gb194 ≠ gb190)); clear BK188; clear BK190; clear HB; have BK188 := n0_; have BK190 := n1_; have HB := n2_; have BK194 := n3_; have GW194 := n4_; have GE194 := n5_; have NB188_194 := n6_; have NB194_188 := n7_; have NB190_194 := n8_; have NB194_190 := n9_; clear n0_ n1_ n2_ n3_ n4_ n5_ n6_ n7_ n8_ n9_; clear hb hbox hg; have hnb50 := NB194_188.out; have hnc50 := NB188_194.out; have hnb51 := NB194_190.out; have hnc51 := NB190_194.out; have hcz52_0 : w49.cell? ⟨gb194, 0, none⟩ = some (.int .i64 0) := (blk_cell BK194.out 0).trans rfl; have hcz52_1 : w49.cell? ⟨gb194, 1, none⟩ = some (.int .i64 0) := (blk_cell BK194.out 1).trans rfl; have hcz52_2 : w49.cell? ⟨gb194, 2, none⟩ = some (.int .i64 0) := (blk_cell BK194.out 2).trans rfl; have hcz52_3 : w49.cell? ⟨gb194, 3, none⟩ = some (.int .i64 0) := (blk_cell BK194.out 3).trans rfl; have hcz52_4 : w49.cell? ⟨gb194, 4, none⟩ = some (.int .i64 0) := (blk_cell BK194.out 4).trans rfl; have hcz52_5 : w49.cell? ⟨gb194, 5, none⟩ = some (.slice none 0 0) := (blk_cell BK194.out 5).trans rfl; have hcz52_6 : w49.cell? ⟨gb194, 6, none⟩ = some (.int .i64 0) := (blk_cell BK194.out 6).trans rfl; have hcz52_7 : w49.cell? ⟨gb194, 7, none⟩ = some (.int .i64 0) := (blk_cell BK194.out 7).trans rfl; have hfz52_0 := blk_frozen BK194.out 0; have hfz52_1 := blk_frozen BK194.out 1; have hfz52_2 := blk_frozen BK194.out 2; have hfz52_3 := blk_frozen BK194.out 3; have hfz52_4 := blk_frozen BK194.out 4; have hfz52_5 := blk_frozen BK194.out 5; have hfz52_6 := blk_frozen BK194.out 6; have hfz52_7 := blk_frozen BK194.out 7; have hnb53 := NB190_188.out; have hnc53 := NB188_190.out; have hcz54_0 : w49.cell? ⟨gb190, 0, none⟩ = some (.slice A189_0 ((rd_T33 l0 x16_1).f0).length c189_0) := (blk_cell BK190.out 0).trans rfl; have hcz54_1 : w49.cell? ⟨gb190, 1, none⟩ = some (.int .i64 ((rd_T33 l0 x16_1).f1)) := (blk_cell BK190.out 1).trans rfl; have hcz54_2 : w49.cell? ⟨gb190, 2, none⟩ = some (.slice (some ad193) ((rd_T33 l0 x16_1).f2).length c189_2) := (blk_cell BK190.out 2).trans rfl; have hfz54_0 := blk_frozen BK190.out 0; have hfz54_1 := blk_frozen BK190.out 1; have hfz54_2 := blk_frozen BK190.out 2) | ((with_reducible refine gate_callee (f := 64) rfl ?_); refine goesL_ (some 81) rfl rfl Try.func64 (by kernel_rfl) rfl #[.agg #[.int .i64 ((rd_T37 ((rd_T33 l0 x16_1).f2) x71_4).f0), .int .i64 ((rd_T37 ((rd_T33 l0 x16_1).f2) x71_4).f1), .int .i64 ((rd_T37 ((rd_T33 l0 x16_1).f2) x71_4).f2), .int .i64 ((rd_T37 ((rd_T33 l0 x16_1).f2) x71_4).f3), .int .i64 ((rd_T37 ((rd_T33 l0 x16_1).f2) x71_4).f4), .slice A193_5 ((rd_T37 ((rd_T33 l0 x16_1).f2) x71_4).f5).length c193_5, .int .i64 ((rd_T37 ((rd_T33 l0 x16_1).f2) x71_4).f6.f0), .int .i64 ((rd_T37 ((rd_T33 l0 x16_1).f2) x71_4).f6.f1)], .int .i64 ((rd_T33 l0 x16_1).f1), .int .i64 (((rd_T33 l0 x16_1).f2).length : Int), .int .i64 (l0.length : Int)] rfl zA ?_; (with_reducible refine (code_inst.calls ((rd_T37 ((rd_T33 l0 x16_1).f2) x71_4).f0) ((rd_T37 ((rd_T33 l0 x16_1).f2) x71_4).f1) ((rd_T37 ((rd_T33 l0 x16_1).f2) x71_4).f2) ((rd_T37 ((rd_T33 l0 x16_1).f2) x71_4).f3) ((rd_T37 ((rd_T33 l0 x16_1).f2) x71_4).f4) _ _ ((rd_T37 ((rd_T33 l0 x16_1).f2) x71_4).f5) ((rd_T37 ((rd_T33 l0 x16_1).f2) x71_4).f6.f0) ((rd_T37 ((rd_T33 l0 x16_1).f2) x71_4).f6.f1) ((rd_T33 l0 x16_1).f1) (((rd_T33 l0 x16_1).f2).length : Int) (l0.length : Int) true _ ?side1 ?side2 A47.out).mono ?_); (case side1 => exact Kd.C_below HR193_5.out (zE HB.out GE188.out GE190.out GE194.out)); (case side2 => exact HC193_5.out); rintro e w55 ⟨rfl, hb⟩; refine ⟨_, rfl, ?_⟩; have n0_ := Aside0.mk (blk_below (g := gb188) (o := .cells #[.int .i64 x189000_4, .int .i64 x189001_4] 26 (0, 0)) (by (with_reducible repeat (first | refine blk_drewN ?_ _ | refine blk_drew ?_ | refine blk_alloc ?_ _)); refine blk_far ?_ NB188_194.out _; (with_reducible repeat (first | refine blk_drewN ?_ _ | refine blk_drew ?_ | refine blk_alloc ?_ _)); refine blk_far ?_ NB188_194.out _; (with_reducible repeat (first | refine blk_drewN ?_ _ | refine blk_drew ?_ | refine blk_alloc ?_ _)); refine blk_far ?_ NB188_194.out _; (with_reducible repeat (first | refine blk_drewN ?_ _ | refine blk_drew ?_ | refine blk_alloc ?_ _)); refine blk_far ?_ NB188_194.out _; (with_reducible repeat (first | refine blk_drewN ?_ _ | refine blk_drew ?_ | refine blk_alloc ?_ _)); refine blk_far ?_ NB188_194.out _; (with_reducible repeat (first | refine blk_drewN ?_ _ | refine blk_drew ?_ | refine blk_alloc ?_ _)); refine blk_far ?_ NB188_194.out _; (with_reducible repeat (first | refine blk_drewN ?_ _ | refine blk_drew ?_ | refine blk_alloc ?_ _)); refine blk_far ?_ NB188_194.out _; (with_reducible repeat (first | refine blk_drewN ?_ _ | refine blk_drew ?_ | refine blk_alloc ?_ _)); refine blk_far ?_ NB188_194.out _; (with_reducible repeat (first | refine blk_drewN ?_ _ | refine blk_drew ?_ | refine blk_alloc ?_ _)); exact BK188.out) hb); have n1_ := Aside0.mk (blk_below (g := gb190) (o := .cells #[.slice A189_0 ((rd_T33 l0 x16_1).f0).length c189_0, .int .i64 ((rd_T33 l0 x16_1).f1), .slice (some ad193) ((rd_T33 l0 x16_1).f2).length c189_2] 33 (0, 0)) (by (with_reducible repeat (first | refine blk_drewN ?_ _ | refine blk_drew ?_ | refine blk_alloc ?_ _)); refine blk_far ?_ NB190_194.out _; (with_reducible repeat (first | refine blk_drewN ?_ _ | refine blk_drew ?_ | refine blk_alloc ?_ _)); refine blk_far ?_ NB190_194.out _; (with_reducible repeat (first | refine blk_drewN ?_ _ | refine blk_drew ?_ | refine blk_alloc ?_ _)); refine blk_far ?_ NB190_194.out _; (with_reducible repeat (first | refine blk_drewN ?_ _ | refine blk_drew ?_ | refine blk_alloc ?_ _)); refine blk_far ?_ NB190_194.out _; (with_reducible repeat (first | refine blk_drewN ?_ _ | refine blk_drew ?_ | refine blk_alloc ?_ _)); refine blk_far ?_ NB190_194.out _; (with_reducible repeat (first | refine blk_drewN ?_ _ | refine blk_drew ?_ | refine blk_alloc ?_ _)); refine blk_far ?_ NB190_194.out _; (with_reducible repeat (first | refine blk_drewN ?_ _ | refine blk_drew ?_ | refine blk_alloc ?_ _)); refine blk_far ?_ NB190_194.out _; (with_reducible repeat (first | refine blk_drewN ?_ _ | refine blk_drew ?_ | refine blk_alloc ?_ _)); refine blk_far ?_ NB190_194.out _; (with_reducible repeat (first | refine blk_drewN ?_ _ | refine blk_drew ?_ | refine blk_alloc ?_ _)); exact BK190.out) hb); have n2_ := Aside0.mk (blk_below (g := gb194) (o := .cells #[.int .i64 ((rd_T37 ((rd_T33 l0 x16_1).f2) x71_4).f0), .int .i64 ((rd_T37 ((rd_T33 l0 x16_1).f2) x71_4).f1), .int .i64 ((rd_T37 ((rd_T33 l0 x16_1).f2) x71_4).f2), .int .i64 ((rd_T37 ((rd_T33 l0 x16_1).f2) x71_4).f3), .int .i64 ((rd_T37 ((rd_T33 l0 x16_1).f2) x71_4).f4), .slice A193_5 ((rd_T37 ((rd_T33 l0 x16_1).f2) x71_4).f5).length c193_5, .int .i64 ((rd_T37 ((rd_T33 l0 x16_1).f2) x71_4).f6.f0), .int .i64 ((rd_T37 ((rd_T33 l0 x16_1).f2) x71_4).f6.f1)] 37 (0, 0)) (by (with_reducible repeat (first | refine blk_drewN ?_ _ | refine blk_drew ?_ | refine blk_alloc ?_ _)); refine blk_put (cs := #[.int .i64 ((rd_T37 ((rd_T33 l0 x16_1).f2) x71_4).f0), .int .i64 ((rd_T37 ((rd_T33 l0 x16_1).f2) x71_4).f1), .int .i64 ((rd_T37 ((rd_T33 l0 x16_1).f2) x71_4).f2), .int .i64 ((rd_T37 ((rd_T33 l0 x16_1).f2) x71_4).f3), .int .i64 ((rd_T37 ((rd_T33 l0 x16_1).f2) x71_4).f4), .slice A193_5 ((rd_T37 ((rd_T33 l0 x16_1).f2) x71_4).f5).length c193_5, .int .i64 ((rd_T37 ((rd_T33 l0 x16_1).f2) x71_4).f6.f0), .int .i64 0]) ?_ 7 _ rfl; (with_reducible repeat (first | refine blk_drewN ?_ _ | refine blk_drew ?_ | refine blk_alloc ?_ _)); refine blk_put (cs := #[.int .i64 ((rd_T37 ((rd_T33 l0 x16_1).f2) x71_4).f0), .int .i64 ((rd_T37 ((rd_T33 l0 x16_1).f2) x71_4).f1), .int .i64 ((rd_T37 ((rd_T33 l0 x16_1).f2) x71_4).f2), .int .i64 ((rd_T37 ((rd_T33 l0 x16_1).f2) x71_4).f3), .int .i64 ((rd_T37 ((rd_T33 l0 x16_1).f2) x71_4).f4), .slice A193_5 ((rd_T37 ((rd_T33 l0 x16_1).f2) x71_4).f5).length c193_5, .int .i64 0, .int .i64 0]) ?_ 6 _ rfl; (with_reducible repeat (first | refine blk_drewN ?_ _ | refine blk_drew ?_ | refine blk_alloc ?_ _)); refine blk_put (cs := #[.int .i64 ((rd_T37 ((rd_T33 l0 x16_1).f2) x71_4).f0), .int .i64 ((rd_T37 ((rd_T33 l0 x16_1).f2) x71_4).f1), .int .i64 ((rd_T37 ((rd_T33 l0 x16_1).f2) x71_4).f2), .int .i64 ((rd_T37 ((rd_T33 l0 x16_1).f2) x71_4).f3), .int .i64 ((rd_T37 ((rd_T33 l0 x16_1).f2) x71_4).f4), .slice none 0 0, .int .i64 0, .int .i64 0]) ?_ 5 _ rfl; (with_reducible repeat (first | refine blk_drewN ?_ _ | refine blk_drew ?_ | refine blk_alloc ?_ _)); refine blk_put (cs := #[.int .i64 ((rd_T37 ((rd_T33 l0 x16_1).f2) x71_4).f0), .int .i64 ((rd_T37 ((rd_T33 l0 x16_1).f2) x71_4).f1), .int .i64 ((rd_T37 ((rd_T33 l0 x16_1).f2) x71_4).f2), .int .i64 ((rd_T37 ((rd_T33 l0 x16_1).f2) x71_4).f3), .int .i64 0, .slice none 0 0, .int .i64 0, .int .i64 0]) ?_ 4 _ rfl; (with_reducible repeat (first | refine blk_drewN ?_ _ | refine blk_drew ?_ | refine blk_alloc ?_ _)); refine blk_put (cs := #[.int .i64 ((rd_T37 ((rd_T33 l0 x16_1).f2) x71_4).f0), .int .i64 ((rd_T37 ((rd_T33 l0 x16_1).f2) x71_4).f1), .int .i64 ((rd_T37 ((rd_T33 l0 x16_1).f2) x71_4).f2), .int .i64 0, .int .i64 0, .slice none 0 0, .int .i64 0, .int .i64 0]) ?_ 3 _ rfl; (with_reducible repeat (first | refine blk_drewN ?_ _ | refine blk_drew ?_ | refine blk_alloc ?_ _)); refine blk_put (cs := #[.int .i64 ((rd_T37 ((rd_T33 l0 x16_1).f2) x71_4).f0), .int .i64 ((rd_T37 ((rd_T33 l0 x16_1).f2) x71_4).f1), .int .i64 0, .int .i64 0, .int .i64 0, .slice none 0 0, .int .i64 0, .int .i64 0]) ?_ 2 _ rfl; (with_reducible repeat (first | refine blk_drewN ?_ _ | refine blk_drew ?_ | refine blk_alloc ?_ _)); refine blk_put (cs := #[.int .i64 ((rd_T37 ((rd_T33 l0 x16_1).f2) x71_4).f0), .int .i64 0, .int .i64 0, .int .i64 0, .int .i64 0, .slice none 0 0, .int .i64 0, .int .i64 0]) ?_ 1 _ rfl; (with_reducible repeat (first | refine blk_drewN ?_ _ | refine blk_drew ?_ | refine blk_alloc ?_ _)); refine blk_put (cs := #[.int .i64 0, .int .i64 0, .int .i64 0, .int .i64 0, .int .i64 0, .slice none 0 0, .int .i64 0, .int .i64 0]) ?_ 0 _ rfl; (with_reducible repeat (first | refine blk_drewN ?_ _ | refine blk_drew ?_ | refine blk_alloc ?_ _)); exact BK194.out) hb); have n3_ := Aside0.mk (below_step (zE HB.out GE188.out GE190.out GE194.out) hb); clear BK188; clear BK190; clear BK194; clear HB; have BK188 := n0_; have BK190 := n1_; have BK194 := n2_; have HB := n3_; clear n0_ n1_ n2_ n3_; (try clear hb); (try clear hb2); (try clear hk); (try clear hi)))
                    go_roundg k4
                    case measure => have := HK1.out; have := HJ8.out; have := HJ26.out; have := HK4.out; omega
                    case rel => exact ⟨(wrap64 (x71_4 + 1)), (x189000_4), (x189001_4), (by first | rfl | (simp; done) | (simp [*]; done)), H', ⟨by have := HK1.out; have := HJ8.out; have := HJ26.out; have := HK4.out; omega⟩, ⟨zK BK188.out⟩, ⟨zK BK190.out⟩, ⟨zE HB.out GE188.out GE190.out GE194.out⟩⟩
                   ·replace c48 := Bool.eq_false_iff.mpr c48
                    subst c48
                    have H1 : (some (2, x16_1)) = some (r1, r2) := by rw [if_neg (show ¬ (false = true) by decide)] at H; exact H
                    clear H
                    have H := H1
                    clear H1
                    simp only [Option.some.injEq, Prod.mk.injEq] at H
                    obtain ⟨rfl, rfl⟩ := H
                    have p193 : 0 ≤ (x71_4 : Int) := of_decide_eq_true zS
                    have q193 : x71_4 < (((rd_T33 l0 x16_1).f2).length : Int) := of_decide_eq_true zS
                    obtain ⟨ad193, A193_5, c193_5, e193, hx193_0, hx193_1, hx193_2, hx193_3, hx193_4, hx193_5, hx193_6, hx193_7, hl193_5, hi193_5⟩ := at_T37 HR189_2.out x71_4 p193 q193
                    cases e193
                    replace hx193_0 := (HB.out.cell (World.block_lt_of_cell? w _ hx193_0)).trans hx193_0
                    replace hx193_1 := (HB.out.cell (World.block_lt_of_cell? w _ hx193_1)).trans hx193_1
                    replace hx193_2 := (HB.out.cell (World.block_lt_of_cell? w _ hx193_2)).trans hx193_2
                    replace hx193_3 := (HB.out.cell (World.block_lt_of_cell? w _ hx193_3)).trans hx193_3
                    replace hx193_4 := (HB.out.cell (World.block_lt_of_cell? w _ hx193_4)).trans hx193_4
                    replace hx193_5 := (HB.out.cell (World.block_lt_of_cell? w _ hx193_5)).trans hx193_5
                    replace hx193_6 := (HB.out.cell (World.block_lt_of_cell? w _ hx193_6)).trans hx193_6
                    replace hx193_7 := (HB.out.cell (World.block_lt_of_cell? w _ hx193_7)).trans hx193_7
                    have HR193_5 := Aside0.mk hi193_5
                    have HC193_5 := Aside0.mk hl193_5
                    clear hi193_5 hl193_5
                    replace p193 := eq_true p193
                    replace q193 := eq_true q193
                    go_wp2_with (first | ((with_reducible refine gate_dst (N := 7) rfl ?_); (try (refine gate_guard (by rfl) ?_; dsimp only)); refine box_event ?hg (N := 7) ?hd (cs := #[.int .i64 0, .int .i64 0, .int .i64 0, .int .i64 0, .int .i64 0, .slice none 0 0, .int .i64 0, .int .i64 0]) (t := 37) ?hr ?_; (case hd => rfl); (case hg => rfl); (case hr => first | (go_simp; done) | (go_simp; rfl)); intro gb194 hg w56 hbox hb; have n0_ := Aside0.mk (blk_below (g := gb188) (o := .cells #[.int .i64 x189000_4, .int .i64 x189001_4] 26 (0, 0)) (zK BK188.out) hb); have n1_ := Aside0.mk (blk_below (g := gb190) (o := .cells #[.slice A189_0 ((rd_T33 l0 x16_1).f0).length c189_0, .int .i64 ((rd_T33 l0 x16_1).f1), .slice (some ad193) ((rd_T33 l0 x16_1).f2).length c189_2] 33 (0, 0)) (zK BK190.out) hb); have n2_ := Aside0.mk (below_step (zD HB.out GE188.out GE190.out) hb); have n3_ := Aside0.mk (hbox); have n4_ := Aside0.mk ((by rw [hg]; exact (below_size (zD HB.out GE188.out GE190.out)) : w.heap.size ≤ gb194)); have n5_ := Aside0.mk ((by rw [hg]; exact (below_size (zD HB.out GE188.out GE190.out)) : w.heap.size ≤ gb194)); have n6_ := Aside0.mk ((by rw [hg]; exact Nat.ne_of_lt (blk_lt (g := gb188) (o := .cells #[.int .i64 x189000_4, .int .i64 x189001_4] 26 (0, 0)) (zK BK188.out)) : gb188 ≠ gb194)); have n7_ := Aside0.mk ((by rw [hg]; exact Nat.ne_of_gt (blk_lt (g := gb188) (o := .cells #[.int .i64 x189000_4, .int .i64 x189001_4] 26 (0, 0)) (zK BK188.out)) : gb194 ≠ gb188)); have n8_ := Aside0.mk ((by rw [hg]; exact Nat.ne_of_lt (blk_lt (g := gb190) (o := .cells #[.slice A189_0 ((rd_T33 l0 x16_1).f0).length c189_0, .int .i64 ((rd_T33 l0 x16_1).f1), .slice (some ad193) ((rd_T33 l0 x16_1).f2).length c189_2] 33 (0, 0)) (zK BK190.out)) : gb190 ≠ gb194)); have n9_ := Aside0.mk ((by rw [hg]; exact Nat.ne_of_gt (blk_lt (g := gb190) (o := .cells #[.slice A189_0 ((rd_T33 l0 x16_1).f0).length c189_0, .int .i64 ((rd_T33 l0 x16_1).f1), .slice (some ad193) ((rd_T33 l0 x16_1).f2).length c189_2] 33 (0, 0)) (zK BK190.out)) : gb194 ≠ gb190)); clear BK188; clear BK190; clear HB; have BK188 := n0_; have BK190 := n1_; have HB := n2_; have BK194 := n3_; have GW194 := n4_; have GE194 := n5_; have NB188_194 := n6_; have NB194_188 := n7_; have NB190_194 := n8_; have NB194_190 := n9_; clear n0_ n1_ n2_ n3_ n4_ n5_ n6_ n7_ n8_ n9_; clear hb hbox hg; have hnb57 := NB194_188.out; have hnc57 := NB188_194.out; have hnb58 := NB194_190.out; have hnc58 := NB190_194.out; have hcz59_0 : w56.cell? ⟨gb194, 0, none⟩ = some (.int .i64 0) := (blk_cell BK194.out 0).trans rfl; have hcz59_1 : w56.cell? ⟨gb194, 1, none⟩ = some (.int .i64 0) := (blk_cell BK194.out 1).trans rfl; have hcz59_2 : w56.cell? ⟨gb194, 2, none⟩ = some (.int .i64 0) := (blk_cell BK194.out 2).trans rfl; have hcz59_3 : w56.cell? ⟨gb194, 3, none⟩ = some (.int .i64 0) := (blk_cell BK194.out 3).trans rfl; have hcz59_4 : w56.cell? ⟨gb194, 4, none⟩ = some (.int .i64 0) := (blk_cell BK194.out 4).trans rfl; have hcz59_5 : w56.cell? ⟨gb194, 5, none⟩ = some (.slice none 0 0) := (blk_cell BK194.out 5).trans rfl; have hcz59_6 : w56.cell? ⟨gb194, 6, none⟩ = some (.int .i64 0) := (blk_cell BK194.out 6).trans rfl; have hcz59_7 : w56.cell? ⟨gb194, 7, none⟩ = some (.int .i64 0) := (blk_cell BK194.out 7).trans rfl; have hfz59_0 := blk_frozen BK194.out 0; have hfz59_1 := blk_frozen BK194.out 1; have hfz59_2 := blk_frozen BK194.out 2; have hfz59_3 := blk_frozen BK194.out 3; have hfz59_4 := blk_frozen BK194.out 4; have hfz59_5 := blk_frozen BK194.out 5; have hfz59_6 := blk_frozen BK194.out 6; have hfz59_7 := blk_frozen BK194.out 7; have hnb60 := NB190_188.out; have hnc60 := NB188_190.out; have hcz61_0 : w56.cell? ⟨gb190, 0, none⟩ = some (.slice A189_0 ((rd_T33 l0 x16_1).f0).length c189_0) := (blk_cell BK190.out 0).trans rfl; have hcz61_1 : w56.cell? ⟨gb190, 1, none⟩ = some (.int .i64 ((rd_T33 l0 x16_1).f1)) := (blk_cell BK190.out 1).trans rfl; have hcz61_2 : w56.cell? ⟨gb190, 2, none⟩ = some (.slice (some ad193) ((rd_T33 l0 x16_1).f2).length c189_2) := (blk_cell BK190.out 2).trans rfl; have hfz61_0 := blk_frozen BK190.out 0; have hfz61_1 := blk_frozen BK190.out 1; have hfz61_2 := blk_frozen BK190.out 2) | ((with_reducible refine gate_callee (f := 64) rfl ?_); refine goesL_ (some 81) rfl rfl Try.func64 (by kernel_rfl) rfl #[.agg #[.int .i64 ((rd_T37 ((rd_T33 l0 x16_1).f2) x71_4).f0), .int .i64 ((rd_T37 ((rd_T33 l0 x16_1).f2) x71_4).f1), .int .i64 ((rd_T37 ((rd_T33 l0 x16_1).f2) x71_4).f2), .int .i64 ((rd_T37 ((rd_T33 l0 x16_1).f2) x71_4).f3), .int .i64 ((rd_T37 ((rd_T33 l0 x16_1).f2) x71_4).f4), .slice A193_5 ((rd_T37 ((rd_T33 l0 x16_1).f2) x71_4).f5).length c193_5, .int .i64 ((rd_T37 ((rd_T33 l0 x16_1).f2) x71_4).f6.f0), .int .i64 ((rd_T37 ((rd_T33 l0 x16_1).f2) x71_4).f6.f1)], .int .i64 ((rd_T33 l0 x16_1).f1), .int .i64 (((rd_T33 l0 x16_1).f2).length : Int), .int .i64 (l0.length : Int)] rfl zA ?_; (with_reducible refine (code_inst.calls ((rd_T37 ((rd_T33 l0 x16_1).f2) x71_4).f0) ((rd_T37 ((rd_T33 l0 x16_1).f2) x71_4).f1) ((rd_T37 ((rd_T33 l0 x16_1).f2) x71_4).f2) ((rd_T37 ((rd_T33 l0 x16_1).f2) x71_4).f3) ((rd_T37 ((rd_T33 l0 x16_1).f2) x71_4).f4) _ _ ((rd_T37 ((rd_T33 l0 x16_1).f2) x71_4).f5) ((rd_T37 ((rd_T33 l0 x16_1).f2) x71_4).f6.f0) ((rd_T37 ((rd_T33 l0 x16_1).f2) x71_4).f6.f1) ((rd_T33 l0 x16_1).f1) (((rd_T33 l0 x16_1).f2).length : Int) (l0.length : Int) false _ ?side1 ?side2 A47.out).mono ?_); (case side1 => exact Kd.C_below HR193_5.out (zE HB.out GE188.out GE190.out GE194.out)); (case side2 => exact HC193_5.out); rintro e w62 ⟨rfl, hb⟩; refine ⟨_, rfl, ?_⟩; have n0_ := Aside0.mk (blk_below (g := gb188) (o := .cells #[.int .i64 x189000_4, .int .i64 x189001_4] 26 (0, 0)) (by (with_reducible repeat (first | refine blk_drewN ?_ _ | refine blk_drew ?_ | refine blk_alloc ?_ _)); refine blk_far ?_ NB188_194.out _; (with_reducible repeat (first | refine blk_drewN ?_ _ | refine blk_drew ?_ | refine blk_alloc ?_ _)); refine blk_far ?_ NB188_194.out _; (with_reducible repeat (first | refine blk_drewN ?_ _ | refine blk_drew ?_ | refine blk_alloc ?_ _)); refine blk_far ?_ NB188_194.out _; (with_reducible repeat (first | refine blk_drewN ?_ _ | refine blk_drew ?_ | refine blk_alloc ?_ _)); refine blk_far ?_ NB188_194.out _; (with_reducible repeat (first | refine blk_drewN ?_ _ | refine blk_drew ?_ | refine blk_alloc ?_ _)); refine blk_far ?_ NB188_194.out _; (with_reducible repeat (first | refine blk_drewN ?_ _ | refine blk_drew ?_ | refine blk_alloc ?_ _)); refine blk_far ?_ NB188_194.out _; (with_reducible repeat (first | refine blk_drewN ?_ _ | refine blk_drew ?_ | refine blk_alloc ?_ _)); refine blk_far ?_ NB188_194.out _; (with_reducible repeat (first | refine blk_drewN ?_ _ | refine blk_drew ?_ | refine blk_alloc ?_ _)); refine blk_far ?_ NB188_194.out _; (with_reducible repeat (first | refine blk_drewN ?_ _ | refine blk_drew ?_ | refine blk_alloc ?_ _)); exact BK188.out) hb); have n1_ := Aside0.mk (blk_below (g := gb190) (o := .cells #[.slice A189_0 ((rd_T33 l0 x16_1).f0).length c189_0, .int .i64 ((rd_T33 l0 x16_1).f1), .slice (some ad193) ((rd_T33 l0 x16_1).f2).length c189_2] 33 (0, 0)) (by (with_reducible repeat (first | refine blk_drewN ?_ _ | refine blk_drew ?_ | refine blk_alloc ?_ _)); refine blk_far ?_ NB190_194.out _; (with_reducible repeat (first | refine blk_drewN ?_ _ | refine blk_drew ?_ | refine blk_alloc ?_ _)); refine blk_far ?_ NB190_194.out _; (with_reducible repeat (first | refine blk_drewN ?_ _ | refine blk_drew ?_ | refine blk_alloc ?_ _)); refine blk_far ?_ NB190_194.out _; (with_reducible repeat (first | refine blk_drewN ?_ _ | refine blk_drew ?_ | refine blk_alloc ?_ _)); refine blk_far ?_ NB190_194.out _; (with_reducible repeat (first | refine blk_drewN ?_ _ | refine blk_drew ?_ | refine blk_alloc ?_ _)); refine blk_far ?_ NB190_194.out _; (with_reducible repeat (first | refine blk_drewN ?_ _ | refine blk_drew ?_ | refine blk_alloc ?_ _)); refine blk_far ?_ NB190_194.out _; (with_reducible repeat (first | refine blk_drewN ?_ _ | refine blk_drew ?_ | refine blk_alloc ?_ _)); refine blk_far ?_ NB190_194.out _; (with_reducible repeat (first | refine blk_drewN ?_ _ | refine blk_drew ?_ | refine blk_alloc ?_ _)); refine blk_far ?_ NB190_194.out _; (with_reducible repeat (first | refine blk_drewN ?_ _ | refine blk_drew ?_ | refine blk_alloc ?_ _)); exact BK190.out) hb); have n2_ := Aside0.mk (blk_below (g := gb194) (o := .cells #[.int .i64 ((rd_T37 ((rd_T33 l0 x16_1).f2) x71_4).f0), .int .i64 ((rd_T37 ((rd_T33 l0 x16_1).f2) x71_4).f1), .int .i64 ((rd_T37 ((rd_T33 l0 x16_1).f2) x71_4).f2), .int .i64 ((rd_T37 ((rd_T33 l0 x16_1).f2) x71_4).f3), .int .i64 ((rd_T37 ((rd_T33 l0 x16_1).f2) x71_4).f4), .slice A193_5 ((rd_T37 ((rd_T33 l0 x16_1).f2) x71_4).f5).length c193_5, .int .i64 ((rd_T37 ((rd_T33 l0 x16_1).f2) x71_4).f6.f0), .int .i64 ((rd_T37 ((rd_T33 l0 x16_1).f2) x71_4).f6.f1)] 37 (0, 0)) (by (with_reducible repeat (first | refine blk_drewN ?_ _ | refine blk_drew ?_ | refine blk_alloc ?_ _)); refine blk_put (cs := #[.int .i64 ((rd_T37 ((rd_T33 l0 x16_1).f2) x71_4).f0), .int .i64 ((rd_T37 ((rd_T33 l0 x16_1).f2) x71_4).f1), .int .i64 ((rd_T37 ((rd_T33 l0 x16_1).f2) x71_4).f2), .int .i64 ((rd_T37 ((rd_T33 l0 x16_1).f2) x71_4).f3), .int .i64 ((rd_T37 ((rd_T33 l0 x16_1).f2) x71_4).f4), .slice A193_5 ((rd_T37 ((rd_T33 l0 x16_1).f2) x71_4).f5).length c193_5, .int .i64 ((rd_T37 ((rd_T33 l0 x16_1).f2) x71_4).f6.f0), .int .i64 0]) ?_ 7 _ rfl; (with_reducible repeat (first | refine blk_drewN ?_ _ | refine blk_drew ?_ | refine blk_alloc ?_ _)); refine blk_put (cs := #[.int .i64 ((rd_T37 ((rd_T33 l0 x16_1).f2) x71_4).f0), .int .i64 ((rd_T37 ((rd_T33 l0 x16_1).f2) x71_4).f1), .int .i64 ((rd_T37 ((rd_T33 l0 x16_1).f2) x71_4).f2), .int .i64 ((rd_T37 ((rd_T33 l0 x16_1).f2) x71_4).f3), .int .i64 ((rd_T37 ((rd_T33 l0 x16_1).f2) x71_4).f4), .slice A193_5 ((rd_T37 ((rd_T33 l0 x16_1).f2) x71_4).f5).length c193_5, .int .i64 0, .int .i64 0]) ?_ 6 _ rfl; (with_reducible repeat (first | refine blk_drewN ?_ _ | refine blk_drew ?_ | refine blk_alloc ?_ _)); refine blk_put (cs := #[.int .i64 ((rd_T37 ((rd_T33 l0 x16_1).f2) x71_4).f0), .int .i64 ((rd_T37 ((rd_T33 l0 x16_1).f2) x71_4).f1), .int .i64 ((rd_T37 ((rd_T33 l0 x16_1).f2) x71_4).f2), .int .i64 ((rd_T37 ((rd_T33 l0 x16_1).f2) x71_4).f3), .int .i64 ((rd_T37 ((rd_T33 l0 x16_1).f2) x71_4).f4), .slice none 0 0, .int .i64 0, .int .i64 0]) ?_ 5 _ rfl; (with_reducible repeat (first | refine blk_drewN ?_ _ | refine blk_drew ?_ | refine blk_alloc ?_ _)); refine blk_put (cs := #[.int .i64 ((rd_T37 ((rd_T33 l0 x16_1).f2) x71_4).f0), .int .i64 ((rd_T37 ((rd_T33 l0 x16_1).f2) x71_4).f1), .int .i64 ((rd_T37 ((rd_T33 l0 x16_1).f2) x71_4).f2), .int .i64 ((rd_T37 ((rd_T33 l0 x16_1).f2) x71_4).f3), .int .i64 0, .slice none 0 0, .int .i64 0, .int .i64 0]) ?_ 4 _ rfl; (with_reducible repeat (first | refine blk_drewN ?_ _ | refine blk_drew ?_ | refine blk_alloc ?_ _)); refine blk_put (cs := #[.int .i64 ((rd_T37 ((rd_T33 l0 x16_1).f2) x71_4).f0), .int .i64 ((rd_T37 ((rd_T33 l0 x16_1).f2) x71_4).f1), .int .i64 ((rd_T37 ((rd_T33 l0 x16_1).f2) x71_4).f2), .int .i64 0, .int .i64 0, .slice none 0 0, .int .i64 0, .int .i64 0]) ?_ 3 _ rfl; (with_reducible repeat (first | refine blk_drewN ?_ _ | refine blk_drew ?_ | refine blk_alloc ?_ _)); refine blk_put (cs := #[.int .i64 ((rd_T37 ((rd_T33 l0 x16_1).f2) x71_4).f0), .int .i64 ((rd_T37 ((rd_T33 l0 x16_1).f2) x71_4).f1), .int .i64 0, .int .i64 0, .int .i64 0, .slice none 0 0, .int .i64 0, .int .i64 0]) ?_ 2 _ rfl; (with_reducible repeat (first | refine blk_drewN ?_ _ | refine blk_drew ?_ | refine blk_alloc ?_ _)); refine blk_put (cs := #[.int .i64 ((rd_T37 ((rd_T33 l0 x16_1).f2) x71_4).f0), .int .i64 0, .int .i64 0, .int .i64 0, .int .i64 0, .slice none 0 0, .int .i64 0, .int .i64 0]) ?_ 1 _ rfl; (with_reducible repeat (first | refine blk_drewN ?_ _ | refine blk_drew ?_ | refine blk_alloc ?_ _)); refine blk_put (cs := #[.int .i64 0, .int .i64 0, .int .i64 0, .int .i64 0, .int .i64 0, .slice none 0 0, .int .i64 0, .int .i64 0]) ?_ 0 _ rfl; (with_reducible repeat (first | refine blk_drewN ?_ _ | refine blk_drew ?_ | refine blk_alloc ?_ _)); exact BK194.out) hb); have n3_ := Aside0.mk (below_step (zE HB.out GE188.out GE190.out GE194.out) hb); clear BK188; clear BK190; clear BK194; clear HB; have BK188 := n0_; have BK190 := n1_; have BK194 := n2_; have HB := n3_; clear n0_ n1_ n2_ n3_; (try clear hb); (try clear hb2); (try clear hk); (try clear hi); have hcz63_0 : w62.cell? ⟨gb188, 0, none⟩ = some (.int .i64 x189000_4) := (blk_cell BK188.out 0).trans rfl; have hcz63_1 : w62.cell? ⟨gb188, 1, none⟩ = some (.int .i64 x189001_4) := (blk_cell BK188.out 1).trans rfl; have hfz63_0 := blk_frozen BK188.out 0; have hfz63_1 := blk_frozen BK188.out 1))
                    refine bodyPost_ret (results_cell_row rfl _ _ gb188 26 #[.int .i64 2, .int .i64 x16_1] (0, 0) _ rfl (by (with_reducible repeat (first | refine blk_drewN ?_ _ | refine blk_drew ?_ | refine blk_alloc ?_ _)); refine blk_put (cs := #[.int .i64 2, .int .i64 x189001_4]) ?_ 1 _ rfl; (with_reducible repeat (first | refine blk_drewN ?_ _ | refine blk_drew ?_ | refine blk_alloc ?_ _)); refine blk_put (cs := #[.int .i64 x189000_4, .int .i64 x189001_4]) ?_ 0 _ rfl; (with_reducible repeat (first | refine blk_drewN ?_ _ | refine blk_drew ?_ | refine blk_alloc ?_ _)); exact BK188.out) Try.underlying26 rfl (by kernel_rfl)) rfl ?_
                    exact ⟨zF, zE HB.out GE188.out GE190.out GE194.out⟩
                  ·rw [if_neg c46] at H
                   exact absurd H (by simp)
                 ·rw [if_neg c45] at H
                  exact absurd H (by simp)
                ·rw [if_neg c44] at H
                 have c44b0 : decide (x71_4 < (((rd_T33 l0 x16_1).f2).length : Int)) = false := decide_eq_false c44
                 clear c44
                 have H' := Aside0.mk H
                 clear H
                 go_wp2
                 go_roundg k4
                 case measure => have := HK1.out; have := HJ8.out; have := HJ26.out; have := HK4.out; omega
                 case rel => exact ⟨(wrap64 (x16_1 + 1)), (x189000_4), (x189001_4), (by first | rfl | (simp; done) | (simp [*]; done)), H', ⟨by have := HK1.out; have := HJ8.out; have := HJ26.out; have := HK4.out; omega⟩, ⟨zK BK188.out⟩, ⟨zD HB.out GE188.out GE190.out⟩⟩
      ·rw [if_neg c8] at H
       exact absurd H (by simp)
     ·rw [if_neg c7] at H
      exact absurd H (by simp)
    ·rw [if_neg c6] at H
     have c6b0 : decide (x16_1 < (l0.length : Int)) = false := decide_eq_false c6
     clear c6
     simp only [Option.some.injEq, Prod.mk.injEq] at H
     obtain ⟨rfl, rfl⟩ := H
     have hcz64_0 : wr.cell? ⟨gb188, 0, none⟩ = some (.int .i64 x189000_1) := (blk_cell BK188.out 0).trans rfl
     have hcz64_1 : wr.cell? ⟨gb188, 1, none⟩ = some (.int .i64 x189001_1) := (blk_cell BK188.out 1).trans rfl
     have hfz64_0 := blk_frozen BK188.out 0
     have hfz64_1 := blk_frozen BK188.out 1
     go_wp2
     refine bodyPost_ret (results_cell_row rfl _ _ gb188 26 #[.int .i64 0, .int .i64 0] (0, 0) _ rfl (by (with_reducible repeat (first | refine blk_drewN ?_ _ | refine blk_drew ?_ | refine blk_alloc ?_ _)); refine blk_put (cs := #[.int .i64 0, .int .i64 x189001_1]) ?_ 1 _ rfl; (with_reducible repeat (first | refine blk_drewN ?_ _ | refine blk_drew ?_ | refine blk_alloc ?_ _)); refine blk_put (cs := #[.int .i64 x189000_1, .int .i64 x189001_1]) ?_ 0 _ rfl; (with_reducible repeat (first | refine blk_drewN ?_ _ | refine blk_drew ?_ | refine blk_alloc ?_ _)); exact BK188.out) Try.underlying26 rfl (by kernel_rfl)) rfl ?_
     exact ⟨zF, zC HB.out GE188.out⟩
end Go.Proofs.Ytkgjbdbhpohkiaa.PLi
end
