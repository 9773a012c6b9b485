import Derived.Test.YtkjdblbgmomieaaMj2
import Derived.Test.YtkjdblbgmomieaaMj3
-- from YtkjdblbgmomieaaPShx31
section
namespace Go.Proofs.Ytkjdblbgmomieaa.PSh
open Go.RowKit Go.Proofs.YtkjdblbgmomieaaW.PrintWords Go.Proofs.YtkjdblbgmomieaaW.PrintLast Go.Proofs.YtkjdblbgmomieaaW.PrintMore Go.Proofs.Ytkjdblbgmomieaa.Zip
attribute [local go_sem] max2_int min2_int max_two min_two max_three min_three max_four min_four   -- for this text's walks alone
set_option linter.unusedVariables false
set_option linter.unusedSimpArgs false
def turntableref05_Ints.l0 : Nat → List Int → List Int → Int → Option (Bool)
 | 0, _, _, _ => none
 | k + 1, x0, x1, x5 => if x5 < (x0.length : Int) then (if 0 ≤ x5 then (if x5 < (x1.length : Int) then (if (rd x0 x5) = (rd x1 x5) then (turntableref05_Ints.l0 k x0 x1 (wrap64 (x5 + 1))) else (some false)) else (none)) else (none)) else (some true)
def turntableref05_Ints.f (k : Nat) (l0 : List Int) (l1 : List Int) : Option (Bool) := if (l0.length : Int) = (l1.length : Int) then (turntableref05_Ints.l0 k l0 l1 0) else (some false)
set_option maxHeartbeats 8000000 in
set_option maxRecDepth 100000 in
theorem turntableref05_Ints.calls (k : Nat) (A0 : Option Addr) (c0 : Nat) (l0 : List Int) (A1 : Option Addr) (c1 : Nat) (l1 : List Int) (r : Bool) (w : World) (hr0 : Kd.C (Kd.int .i64) w A0 l0.length l0) (hc0 : l0.length ≤ c0) (hr1 : Kd.C (Kd.int .i64) w A1 l1.length l1) (hc1 : l1.length ≤ c1) (h : turntableref05_Ints.f k l0 l1 = some r) :
  Calls Try.prog 89 #[.slice A0 l0.length c0, .slice A1 l1.length c1] w fun e w' => e = .returned (.bool r) ∧ Drawn0 w w' := by
 have HR0 := Aside0.mk hr0
 have HC0 := Aside0.mk hc0
 clear hr0 hc0
 have HR1 := Aside0.mk hr1
 have HC1 := Aside0.mk hc1
 clear hr1 hc1
 have H : (if (l0.length : Int) = (l1.length : Int) then (turntableref05_Ints.l0 k l0 l1 0) else (some false)) = some r := h
 clear h
 by_cases c3 : (l0.length : Int) = (l1.length : Int)
 ·rw [if_pos c3] at H
  have c3b0 : ((l0.length : Int) == (l1.length : Int)) = true := beq_iff_eq.mpr c3
  have c3b1 : ((l0.length : Int) != (l1.length : Int)) = false := bne_eq_false_iff_eq.mpr c3
  have c3b2 : (l0.length == l1.length) = true := by first | simpa using c3 | (simp at c3 ⊢; omega)
  clear c3
  have H' := Aside0.mk H
  clear H
  go_enter Try.func89, Try.ntmps89
  go_wp2
  repeat (go_quiet (fail); try go_wp2)
  go_loopg [5] k (fun kq v5 w' => ∃ (x5_1 : Int), v5 = .int .i64 x5_1 ∧ Aside0 (turntableref05_Ints.l0 kq l0 l1 x5_1 = some r) ∧ Aside0 (kq ≤ k) ∧ Drawn0 w w')
  case atStart => exact ⟨(0), (by first | rfl | (simp; done) | (simp [*]; done)), H', ⟨Nat.le_refl _⟩, zQ⟩
  case round =>
   clear H'
   try clear c1
   try clear p2
   try clear c3
   try clear c3b0
   try clear c3b1
   try clear c3b2
   obtain ⟨x5_1, rfl, HA, HK1, ⟨m1, rfl⟩⟩ := hrel
   cases gk with
   | zero => exact absurd HA.out (by simp [turntableref05_Ints.l0])
   | succ k1 =>
    have H := HA.out
    clear HA
    simp only [turntableref05_Ints.l0] at H
    by_cases c4 : x5_1 < (l0.length : Int)
    ·rw [if_pos c4] at H
     have c4b0 : decide (x5_1 < (l0.length : Int)) = true := decide_eq_true c4
     clear c4
     by_cases c5 : 0 ≤ x5_1
     ·rw [if_pos c5] at H
      have c5b0 : decide (0 ≤ x5_1) = true := decide_eq_true c5
      clear c5
      by_cases c6 : x5_1 < (l1.length : Int)
      ·rw [if_pos c6] at H
       have c6b0 : decide (x5_1 < (l1.length : Int)) = true := decide_eq_true c6
       clear c6
       by_cases c7 : (rd l0 x5_1) = (rd l1 x5_1)
       ·rw [if_pos c7] at H
        have c7b0 : ((rd l0 x5_1) == (rd l1 x5_1)) = true := beq_iff_eq.mpr c7
        have c7b1 : ((rd l0 x5_1) != (rd l1 x5_1)) = false := bne_eq_false_iff_eq.mpr c7
        clear c7
        have H' := Aside0.mk H
        clear H
        have p446 : 0 ≤ (x5_1 : Int) := of_decide_eq_true zS
        have q446 : x5_1 < (l0.length : Int) := of_decide_eq_true zS
        obtain ⟨ad446, e446, hx446_0⟩ := Kd.at_int HR0.out x5_1 p446 q446
        cases e446
        replace p446 := eq_true p446
        replace q446 := eq_true q446
        have p447 : 0 ≤ (x5_1 : Int) := of_decide_eq_true zS
        have q447 : x5_1 < (l1.length : Int) := of_decide_eq_true zS
        obtain ⟨ad447, e447, hx447_0⟩ := Kd.at_int HR1.out x5_1 p447 q447
        cases e447
        replace p447 := eq_true p447
        replace q447 := eq_true q447
        go_wp2
        repeat (go_quiet (fail); try go_wp2)
        go_roundg k1
        case measure => have := HK1.out; omega
        case rel => exact ⟨(wrap64 (x5_1 + 1)), (by first | rfl | (simp; done) | (simp [*]; done)), H', ⟨by have := HK1.out; omega⟩, zQ⟩
       ·rw [if_neg c7] at H
        have c7b0 : ((rd l0 x5_1) == (rd l1 x5_1)) = false := beq_eq_false_iff_ne.mpr c7
        have c7b1 : ((rd l0 x5_1) != (rd l1 x5_1)) = true := bne_iff_ne.mpr c7
        obtain rfl := Option.some.inj H
        have p446 : 0 ≤ (x5_1 : Int) := of_decide_eq_true zS
        have q446 : x5_1 < (l0.length : Int) := of_decide_eq_true zS
        obtain ⟨ad446, e446, hx446_0⟩ := Kd.at_int HR0.out x5_1 p446 q446
        cases e446
        replace p446 := eq_true p446
        replace q446 := eq_true q446
        have p447 : 0 ≤ (x5_1 : Int) := of_decide_eq_true zS
        have q447 : x5_1 < (l1.length : Int) := of_decide_eq_true zS
        obtain ⟨ad447, e447, hx447_0⟩ := Kd.at_int HR1.out x5_1 p447 q447
        cases e447
        replace p447 := eq_true p447
        replace q447 := eq_true q447
        go_wp2
        repeat (go_quiet (fail); try go_wp2)
        go_ret
        exact ⟨by first | rfl | (simp; done) | (simp [*]; done), zQ⟩
      ·rw [if_neg c6] at H
       exact absurd H (by simp)
     ·rw [if_neg c5] at H
      exact absurd H (by simp)
    ·rw [if_neg c4] at H
     have c4b0 : decide (x5_1 < (l0.length : Int)) = false := decide_eq_false c4
     clear c4
     obtain rfl := Option.some.inj H
     go_wp2
     repeat (go_quiet (fail); try go_wp2)
     go_ret
     exact ⟨by first | rfl | (simp; done) | (simp [*]; done), zQ⟩
 ·rw [if_neg c3] at H
  have c3b0 : ((l0.length : Int) == (l1.length : Int)) = false := beq_eq_false_iff_ne.mpr c3
  have c3b1 : ((l0.length : Int) != (l1.length : Int)) = true := bne_iff_ne.mpr c3
  have c3b2 : (l0.length == l1.length) = false := by first | simpa using c3 | (simp at c3 ⊢; omega)
  obtain rfl := Option.some.inj H
  go_enter Try.func89, Try.ntmps89
  go_wp2
  repeat (go_quiet (fail); try go_wp2)
  go_ret
  exact ⟨by first | rfl | (simp; done) | (simp [*]; done), zQ⟩
def turntableref05_Same.j0 : Nat → Bool → Int → Int → Int → Int → List Int → List Int → ByteArray → Int → Int → Int → Int → Int → List Int → List Int → ByteArray → Int → Option (Bool)
 | 0, _, _, _, _, _, _, _, _, _, _, _, _, _, _, _, _, _ => none
 | k + 1, x37, x449000, x449001, x449002, x449003, x449004, x449005, x449006, x449007, x450000, x450001, x450002, x450003, x450004, x450005, x450006, x450007 => if x37 = true then (some false) else ((turntableref05_Ints.f k x449004 x450004).bind fun t450 => (if t450 = true then ((turntableref05_Ints.f k x449005 x450005).bind fun t451 => (some t451)) else (some false)))
def turntableref05_Same.f (k : Nat) (a0_0 : Int) (a0_1 : Int) (a0_2 : Int) (a0_3 : Int) (l0_4 : List Int) (l0_5 : List Int) (a0_6 : ByteArray) (a0_7 : Int) (a1_0 : Int) (a1_1 : Int) (a1_2 : Int) (a1_3 : Int) (l1_4 : List Int) (l1_5 : List Int) (a1_6 : ByteArray) (a1_7 : Int) : Option (Bool) := if a0_0 = a1_0 then (if a0_1 = a1_1 then (if a0_2 = a1_2 then (if a0_3 = a1_3 then (turntableref05_Same.j0 k (a0_6.toList != a1_6.toList) a0_0 a0_1 a0_2 a0_3 l0_4 l0_5 a0_6 a0_7 a1_0 a1_1 a1_2 a1_3 l1_4 l1_5 a1_6 a1_7) else (turntableref05_Same.j0 k true a0_0 a0_1 a0_2 a0_3 l0_4 l0_5 a0_6 a0_7 a1_0 a1_1 a1_2 a1_3 l1_4 l1_5 a1_6 a1_7)) else (turntableref05_Same.j0 k true a0_0 a0_1 a0_2 a0_3 l0_4 l0_5 a0_6 a0_7 a1_0 a1_1 a1_2 a1_3 l1_4 l1_5 a1_6 a1_7)) else (turntableref05_Same.j0 k true a0_0 a0_1 a0_2 a0_3 l0_4 l0_5 a0_6 a0_7 a1_0 a1_1 a1_2 a1_3 l1_4 l1_5 a1_6 a1_7)) else (turntableref05_Same.j0 k true a0_0 a0_1 a0_2 a0_3 l0_4 l0_5 a0_6 a0_7 a1_0 a1_1 a1_2 a1_3 l1_4 l1_5 a1_6 a1_7)
set_option maxHeartbeats 8000000 in
set_option maxRecDepth 100000 in
theorem turntableref05_Same.calls (k : Nat) (a0_0 : Int) (a0_1 : Int) (a0_2 : Int) (a0_3 : Int) (A0_4 : Option Addr) (c0_4 : Nat) (l0_4 : List Int) (A0_5 : Option Addr) (c0_5 : Nat) (l0_5 : List Int) (a0_6 : ByteArray) (a0_7 : Int) (a1_0 : Int) (a1_1 : Int) (a1_2 : Int) (a1_3 : Int) (A1_4 : Option Addr) (c1_4 : Nat) (l1_4 : List Int) (A1_5 : Option Addr) (c1_5 : Nat) (l1_5 : List Int) (a1_6 : ByteArray) (a1_7 : Int) (r : Bool) (w : World) (hr0_4 : Kd.C (Kd.int .i64) w A0_4 l0_4.length l0_4) (hc0_4 : l0_4.length ≤ c0_4) (hr0_5 : Kd.C (Kd.int .i64) w A0_5 l0_5.length l0_5) (hc0_5 : l0_5.length ≤ c0_5) (hr1_4 : Kd.C (Kd.int .i64) w A1_4 l1_4.length l1_4) (hc1_4 : l1_4.length ≤ c1_4) (hr1_5 : Kd.C (Kd.int .i64) w A1_5 l1_5.length l1_5) (hc1_5 : l1_5.length ≤ c1_5) (h : turntableref05_Same.f k a0_0 a0_1 a0_2 a0_3 l0_4 l0_5 a0_6 a0_7 a1_0 a1_1 a1_2 a1_3 l1_4 l1_5 a1_6 a1_7 = some r) :
  Calls Try.prog 90 #[.agg #[.int .i64 a0_0, .int .i64 a0_1, .int .i64 a0_2, .int .i64 a0_3, .slice A0_4 l0_4.length c0_4, .slice A0_5 l0_5.length c0_5, .string a0_6, .int .i64 a0_7], .agg #[.int .i64 a1_0, .int .i64 a1_1, .int .i64 a1_2, .int .i64 a1_3, .slice A1_4 l1_4.length c1_4, .slice A1_5 l1_5.length c1_5, .string a1_6, .int .i64 a1_7]] w fun e w' => e = .returned (.bool r) ∧ Below w.heap.size w w' := by
 have hu39 := Try.underlying39
 have HR0_4 := Aside0.mk hr0_4
 have HC0_4 := Aside0.mk hc0_4
 clear hr0_4 hc0_4
 have HR0_5 := Aside0.mk hr0_5
 have HC0_5 := Aside0.mk hc0_5
 clear hr0_5 hc0_5
 have HR1_4 := Aside0.mk hr1_4
 have HC1_4 := Aside0.mk hc1_4
 clear hr1_4 hc1_4
 have HR1_5 := Aside0.mk hr1_5
 have HC1_5 := Aside0.mk hc1_5
 clear hr1_5 hc1_5
 have HB := Aside0.mk (Below.refl w.heap.size w)
 have H : (if a0_0 = a1_0 then (if a0_1 = a1_1 then (if a0_2 = a1_2 then (if a0_3 = a1_3 then (turntableref05_Same.j0 k (a0_6.toList != a1_6.toList) a0_0 a0_1 a0_2 a0_3 l0_4 l0_5 a0_6 a0_7 a1_0 a1_1 a1_2 a1_3 l1_4 l1_5 a1_6 a1_7) else (turntableref05_Same.j0 k true a0_0 a0_1 a0_2 a0_3 l0_4 l0_5 a0_6 a0_7 a1_0 a1_1 a1_2 a1_3 l1_4 l1_5 a1_6 a1_7)) else (turntableref05_Same.j0 k true a0_0 a0_1 a0_2 a0_3 l0_4 l0_5 a0_6 a0_7 a1_0 a1_1 a1_2 a1_3 l1_4 l1_5 a1_6 a1_7)) else (turntableref05_Same.j0 k true a0_0 a0_1 a0_2 a0_3 l0_4 l0_5 a0_6 a0_7 a1_0 a1_1 a1_2 a1_3 l1_4 l1_5 a1_6 a1_7)) else (turntableref05_Same.j0 k true a0_0 a0_1 a0_2 a0_3 l0_4 l0_5 a0_6 a0_7 a1_0 a1_1 a1_2 a1_3 l1_4 l1_5 a1_6 a1_7)) = some r := h
 clear h
 have HC3 := Aside0.mk H
 clear H
 go_enter Try.func90, Try.ntmps90
 go_upto_region 1 with (first | ((with_reducible refine gate_dst (N := 2) rfl ?_); refine box_event ?hg (N := 2) ?hd (cs := #[.int .i64 a0_0, .int .i64 a0_1, .int .i64 a0_2, .int .i64 a0_3, .slice A0_4 l0_4.length c0_4, .slice A0_5 l0_5.length c0_5, .string a0_6, .int .i64 a0_7]) (t := 39) ?hr ?_; (case hd => rfl); (case hg => rfl); (case hr => first | (go_simp; done) | (go_simp; rfl)); intro gb448 hg w4 hbox hb; have n0_ := Aside0.mk (below_step (zB HB.out) hb); have n1_ := Aside0.mk (hbox); have n2_ := Aside0.mk ((by rw [hg]; exact (below_size (zB HB.out)) : w.heap.size ≤ gb448)); have n3_ := Aside0.mk ((by rw [hg]; exact (below_size (zB HB.out)) : w.heap.size ≤ gb448)); clear HB; have HB := n0_; have BK448 := n1_; have GW448 := n2_; have GE448 := n3_; clear n0_ n1_ n2_ n3_; clear hb hbox hg) | ((with_reducible refine gate_dst (N := 3) rfl ?_); refine box_event ?hg (N := 3) ?hd (cs := #[.int .i64 a1_0, .int .i64 a1_1, .int .i64 a1_2, .int .i64 a1_3, .slice A1_4 l1_4.length c1_4, .slice A1_5 l1_5.length c1_5, .string a1_6, .int .i64 a1_7]) (t := 39) ?hr ?_; (case hd => rfl); (case hg => rfl); (case hr => first | (go_simp; done) | (go_simp; rfl)); intro gb449 hg w5 hbox hb; have n0_ := Aside0.mk (blk_below (g := gb448) (o := .cells #[.int .i64 a0_0, .int .i64 a0_1, .int .i64 a0_2, .int .i64 a0_3, .slice A0_4 l0_4.length c0_4, .slice A0_5 l0_5.length c0_5, .string a0_6, .int .i64 a0_7] 39 (0, 0)) (zK BK448.out) hb); have n1_ := Aside0.mk (below_step (zC HB.out GE448.out) hb); have n2_ := Aside0.mk (hbox); have n3_ := Aside0.mk ((by rw [hg]; exact (below_size (zC HB.out GE448.out)) : w.heap.size ≤ gb449)); have n4_ := Aside0.mk ((by rw [hg]; exact (below_size (zC HB.out GE448.out)) : w.heap.size ≤ gb449)); have n5_ := Aside0.mk ((by rw [hg]; exact Nat.ne_of_lt (blk_lt (g := gb448) (o := .cells #[.int .i64 a0_0, .int .i64 a0_1, .int .i64 a0_2, .int .i64 a0_3, .slice A0_4 l0_4.length c0_4, .slice A0_5 l0_5.length c0_5, .string a0_6, .int .i64 a0_7] 39 (0, 0)) (zK BK448.out)) : gb448 ≠ gb449)); have n6_ := Aside0.mk ((by rw [hg]; exact Nat.ne_of_gt (blk_lt (g := gb448) (o := .cells #[.int .i64 a0_0, .int .i64 a0_1, .int .i64 a0_2, .int .i64 a0_3, .slice A0_4 l0_4.length c0_4, .slice A0_5 l0_5.length c0_5, .string a0_6, .int .i64 a0_7] 39 (0, 0)) (zK BK448.out)) : gb449 ≠ gb448)); clear BK448; clear HB; have BK448 := n0_; have HB := n1_; have BK449 := n2_; have GW449 := n3_; have GE449 := n4_; have NB448_449 := n5_; have NB449_448 := n6_; clear n0_ n1_ n2_ n3_ n4_ n5_ n6_; clear hb hbox hg))
 (try simp only [Act.put, List.setIfInBounds_toArray, List.set_cons_zero, List.set_cons_succ])
 go_cut [37] (fun v37 wc => ∃ (kq : Nat) (x37_2 : Bool), v37 = .bool x37_2 ∧ Aside0 (turntableref05_Same.j0 kq x37_2 a0_0 a0_1 a0_2 a0_3 l0_4 l0_5 a0_6 a0_7 a1_0 a1_1 a1_2 a1_3 l1_4 l1_5 a1_6 a1_7 = some r) ∧ Aside0 (kq ≤ k) ∧ Aside0 (wc.heap[gb448]? = some (.cells #[.int .i64 a0_0, .int .i64 a0_1, .int .i64 a0_2, .int .i64 a0_3, (.slice A0_4 l0_4.length c0_4), (.slice A0_5 l0_5.length c0_5), .string a0_6, .int .i64 a0_7] 39 (0, 0))) ∧ Aside0 (wc.heap[gb449]? = some (.cells #[.int .i64 a1_0, .int .i64 a1_1, .int .i64 a1_2, .int .i64 a1_3, (.slice A1_4 l1_4.length c1_4), (.slice A1_5 l1_5.length c1_5), .string a1_6, .int .i64 a1_7] 39 (0, 0))) ∧ Aside0 (Below w.heap.size w wc))
 case first =>
  have H := HC3.out
  clear HC3
  by_cases c6 : a0_0 = a1_0
  ·rw [if_pos c6] at H
   have c6b0 : (a0_0 == a1_0) = true := beq_iff_eq.mpr c6
   have c6b1 : (a0_0 != a1_0) = false := bne_eq_false_iff_eq.mpr c6
   clear c6
   (first | rw [c6b0] | (simp only [i64_w, i32_w]; rw [c6b0]) | skip)
   by_cases c7 : a0_1 = a1_1
   ·rw [if_pos c7] at H
    have c7b0 : (a0_1 == a1_1) = true := beq_iff_eq.mpr c7
    have c7b1 : (a0_1 != a1_1) = false := bne_eq_false_iff_eq.mpr c7
    clear c7
    by_cases c8 : a0_2 = a1_2
    ·rw [if_pos c8] at H
     have c8b0 : (a0_2 == a1_2) = true := beq_iff_eq.mpr c8
     have c8b1 : (a0_2 != a1_2) = false := bne_eq_false_iff_eq.mpr c8
     clear c8
     by_cases c9 : a0_3 = a1_3
     ·rw [if_pos c9] at H
      have c9b0 : (a0_3 == a1_3) = true := beq_iff_eq.mpr c9
      have c9b1 : (a0_3 != a1_3) = false := bne_eq_false_iff_eq.mpr c9
      clear c9
      have H' := Aside0.mk H
      clear H
      have hnb10 := NB448_449.out
      have hnc10 := NB449_448.out
      have hcz11_0 : w5.cell? ⟨gb448, 0, none⟩ = some (.int .i64 a0_0) := (blk_cell BK448.out 0).trans rfl
      have hcz11_1 : w5.cell? ⟨gb448, 1, none⟩ = some (.int .i64 a0_1) := (blk_cell BK448.out 1).trans rfl
      have hcz11_2 : w5.cell? ⟨gb448, 2, none⟩ = some (.int .i64 a0_2) := (blk_cell BK448.out 2).trans rfl
      have hcz11_3 : w5.cell? ⟨gb448, 3, none⟩ = some (.int .i64 a0_3) := (blk_cell BK448.out 3).trans rfl
      have hcz11_4 : w5.cell? ⟨gb448, 4, none⟩ = some (.slice A0_4 l0_4.length c0_4) := (blk_cell BK448.out 4).trans rfl
      have hcz11_5 : w5.cell? ⟨gb448, 5, none⟩ = some (.slice A0_5 l0_5.length c0_5) := (blk_cell BK448.out 5).trans rfl
      have hcz11_6 : w5.cell? ⟨gb448, 6, none⟩ = some (.string a0_6) := (blk_cell BK448.out 6).trans rfl
      have hcz11_7 : w5.cell? ⟨gb448, 7, none⟩ = some (.int .i64 a0_7) := (blk_cell BK448.out 7).trans rfl
      have hfz11_0 := blk_frozen BK448.out 0
      have hfz11_1 := blk_frozen BK448.out 1
      have hfz11_2 := blk_frozen BK448.out 2
      have hfz11_3 := blk_frozen BK448.out 3
      have hfz11_4 := blk_frozen BK448.out 4
      have hfz11_5 := blk_frozen BK448.out 5
      have hfz11_6 := blk_frozen BK448.out 6
      have hfz11_7 := blk_frozen BK448.out 7
      have hcz12_0 : w5.cell? ⟨gb449, 0, none⟩ = some (.int .i64 a1_0) := (blk_cell BK449.out 0).trans rfl
      have hcz12_1 : w5.cell? ⟨gb449, 1, none⟩ = some (.int .i64 a1_1) := (blk_cell BK449.out 1).trans rfl
      have hcz12_2 : w5.cell? ⟨gb449, 2, none⟩ = some (.int .i64 a1_2) := (blk_cell BK449.out 2).trans rfl
      have hcz12_3 : w5.cell? ⟨gb449, 3, none⟩ = some (.int .i64 a1_3) := (blk_cell BK449.out 3).trans rfl
      have hcz12_4 : w5.cell? ⟨gb449, 4, none⟩ = some (.slice A1_4 l1_4.length c1_4) := (blk_cell BK449.out 4).trans rfl
      have hcz12_5 : w5.cell? ⟨gb449, 5, none⟩ = some (.slice A1_5 l1_5.length c1_5) := (blk_cell BK449.out 5).trans rfl
      have hcz12_6 : w5.cell? ⟨gb449, 6, none⟩ = some (.string a1_6) := (blk_cell BK449.out 6).trans rfl
      have hcz12_7 : w5.cell? ⟨gb449, 7, none⟩ = some (.int .i64 a1_7) := (blk_cell BK449.out 7).trans rfl
      have hfz12_0 := blk_frozen BK449.out 0
      have hfz12_1 := blk_frozen BK449.out 1
      have hfz12_2 := blk_frozen BK449.out 2
      have hfz12_3 := blk_frozen BK449.out 3
      have hfz12_4 := blk_frozen BK449.out 4
      have hfz12_5 := blk_frozen BK449.out 5
      have hfz12_6 := blk_frozen BK449.out 6
      have hfz12_7 := blk_frozen BK449.out 7
      go_wp2
      go_meet
      case rel => exact ⟨_, ((a0_6.toList != a1_6.toList)), (by first | rfl | (simp; done) | (simp [*]; done)), H', ⟨by first | omega | exact Nat.le_refl _⟩, ⟨zK BK448.out⟩, ⟨zK BK449.out⟩, ⟨zD HB.out GE448.out GE449.out⟩⟩
     ·rw [if_neg c9] at H
      have c9b0 : (a0_3 == a1_3) = false := beq_eq_false_iff_ne.mpr c9
      have c9b1 : (a0_3 != a1_3) = true := bne_iff_ne.mpr c9
      have H' := Aside0.mk H
      clear H
      have hnb13 := NB448_449.out
      have hnc13 := NB449_448.out
      have hcz14_0 : w5.cell? ⟨gb448, 0, none⟩ = some (.int .i64 a0_0) := (blk_cell BK448.out 0).trans rfl
      have hcz14_1 : w5.cell? ⟨gb448, 1, none⟩ = some (.int .i64 a0_1) := (blk_cell BK448.out 1).trans rfl
      have hcz14_2 : w5.cell? ⟨gb448, 2, none⟩ = some (.int .i64 a0_2) := (blk_cell BK448.out 2).trans rfl
      have hcz14_3 : w5.cell? ⟨gb448, 3, none⟩ = some (.int .i64 a0_3) := (blk_cell BK448.out 3).trans rfl
      have hcz14_4 : w5.cell? ⟨gb448, 4, none⟩ = some (.slice A0_4 l0_4.length c0_4) := (blk_cell BK448.out 4).trans rfl
      have hcz14_5 : w5.cell? ⟨gb448, 5, none⟩ = some (.slice A0_5 l0_5.length c0_5) := (blk_cell BK448.out 5).trans rfl
      have hcz14_6 : w5.cell? ⟨gb448, 6, none⟩ = some (.string a0_6) := (blk_cell BK448.out 6).trans rfl
      have hcz14_7 : w5.cell? ⟨gb448, 7, none⟩ = some (.int .i64 a0_7) := (blk_cell BK448.out 7).trans rfl
      have hfz14_0 := blk_frozen BK448.out 0
      have hfz14_1 := blk_frozen BK448.out 1
      have hfz14_2 := blk_frozen BK448.out 2
      have hfz14_3 := blk_frozen BK448.out 3
      have hfz14_4 := blk_frozen BK448.out 4
      have hfz14_5 := blk_frozen BK448.out 5
      have hfz14_6 := blk_frozen BK448.out 6
      have hfz14_7 := blk_frozen BK448.out 7
      have hcz15_0 : w5.cell? ⟨gb449, 0, none⟩ = some (.int .i64 a1_0) := (blk_cell BK449.out 0).trans rfl
      have hcz15_1 : w5.cell? ⟨gb449, 1, none⟩ = some (.int .i64 a1_1) := (blk_cell BK449.out 1).trans rfl
      have hcz15_2 : w5.cell? ⟨gb449, 2, none⟩ = some (.int .i64 a1_2) := (blk_cell BK449.out 2).trans rfl
      have hcz15_3 : w5.cell? ⟨gb449, 3, none⟩ = some (.int .i64 a1_3) := (blk_cell BK449.out 3).trans rfl
      have hcz15_4 : w5.cell? ⟨gb449, 4, none⟩ = some (.slice A1_4 l1_4.length c1_4) := (blk_cell BK449.out 4).trans rfl
      have hcz15_5 : w5.cell? ⟨gb449, 5, none⟩ = some (.slice A1_5 l1_5.length c1_5) := (blk_cell BK449.out 5).trans rfl
      have hcz15_6 : w5.cell? ⟨gb449, 6, none⟩ = some (.string a1_6) := (blk_cell BK449.out 6).trans rfl
      have hcz15_7 : w5.cell? ⟨gb449, 7, none⟩ = some (.int .i64 a1_7) := (blk_cell BK449.out 7).trans rfl
      have hfz15_0 := blk_frozen BK449.out 0
      have hfz15_1 := blk_frozen BK449.out 1
      have hfz15_2 := blk_frozen BK449.out 2
      have hfz15_3 := blk_frozen BK449.out 3
      have hfz15_4 := blk_frozen BK449.out 4
      have hfz15_5 := blk_frozen BK449.out 5
      have hfz15_6 := blk_frozen BK449.out 6
      have hfz15_7 := blk_frozen BK449.out 7
      go_wp2
      go_meet
      case rel => exact ⟨_, (true), (by first | rfl | (simp; done) | (simp [*]; done)), H', ⟨by first | omega | exact Nat.le_refl _⟩, ⟨zK BK448.out⟩, ⟨zK BK449.out⟩, ⟨zD HB.out GE448.out GE449.out⟩⟩
    ·rw [if_neg c8] at H
     have c8b0 : (a0_2 == a1_2) = false := beq_eq_false_iff_ne.mpr c8
     have c8b1 : (a0_2 != a1_2) = true := bne_iff_ne.mpr c8
     have H' := Aside0.mk H
     clear H
     have hnb16 := NB448_449.out
     have hnc16 := NB449_448.out
     have hcz17_0 : w5.cell? ⟨gb448, 0, none⟩ = some (.int .i64 a0_0) := (blk_cell BK448.out 0).trans rfl
     have hcz17_1 : w5.cell? ⟨gb448, 1, none⟩ = some (.int .i64 a0_1) := (blk_cell BK448.out 1).trans rfl
     have hcz17_2 : w5.cell? ⟨gb448, 2, none⟩ = some (.int .i64 a0_2) := (blk_cell BK448.out 2).trans rfl
     have hcz17_3 : w5.cell? ⟨gb448, 3, none⟩ = some (.int .i64 a0_3) := (blk_cell BK448.out 3).trans rfl
     have hcz17_4 : w5.cell? ⟨gb448, 4, none⟩ = some (.slice A0_4 l0_4.length c0_4) := (blk_cell BK448.out 4).trans rfl
     have hcz17_5 : w5.cell? ⟨gb448, 5, none⟩ = some (.slice A0_5 l0_5.length c0_5) := (blk_cell BK448.out 5).trans rfl
     have hcz17_6 : w5.cell? ⟨gb448, 6, none⟩ = some (.string a0_6) := (blk_cell BK448.out 6).trans rfl
     have hcz17_7 : w5.cell? ⟨gb448, 7, none⟩ = some (.int .i64 a0_7) := (blk_cell BK448.out 7).trans rfl
     have hfz17_0 := blk_frozen BK448.out 0
     have hfz17_1 := blk_frozen BK448.out 1
     have hfz17_2 := blk_frozen BK448.out 2
     have hfz17_3 := blk_frozen BK448.out 3
     have hfz17_4 := blk_frozen BK448.out 4
     have hfz17_5 := blk_frozen BK448.out 5
     have hfz17_6 := blk_frozen BK448.out 6
     have hfz17_7 := blk_frozen BK448.out 7
     have hcz18_0 : w5.cell? ⟨gb449, 0, none⟩ = some (.int .i64 a1_0) := (blk_cell BK449.out 0).trans rfl
     have hcz18_1 : w5.cell? ⟨gb449, 1, none⟩ = some (.int .i64 a1_1) := (blk_cell BK449.out 1).trans rfl
     have hcz18_2 : w5.cell? ⟨gb449, 2, none⟩ = some (.int .i64 a1_2) := (blk_cell BK449.out 2).trans rfl
     have hcz18_3 : w5.cell? ⟨gb449, 3, none⟩ = some (.int .i64 a1_3) := (blk_cell BK449.out 3).trans rfl
     have hcz18_4 : w5.cell? ⟨gb449, 4, none⟩ = some (.slice A1_4 l1_4.length c1_4) := (blk_cell BK449.out 4).trans rfl
     have hcz18_5 : w5.cell? ⟨gb449, 5, none⟩ = some (.slice A1_5 l1_5.length c1_5) := (blk_cell BK449.out 5).trans rfl
     have hcz18_6 : w5.cell? ⟨gb449, 6, none⟩ = some (.string a1_6) := (blk_cell BK449.out 6).trans rfl
     have hcz18_7 : w5.cell? ⟨gb449, 7, none⟩ = some (.int .i64 a1_7) := (blk_cell BK449.out 7).trans rfl
     have hfz18_0 := blk_frozen BK449.out 0
     have hfz18_1 := blk_frozen BK449.out 1
     have hfz18_2 := blk_frozen BK449.out 2
     have hfz18_3 := blk_frozen BK449.out 3
     have hfz18_4 := blk_frozen BK449.out 4
     have hfz18_5 := blk_frozen BK449.out 5
     have hfz18_6 := blk_frozen BK449.out 6
     have hfz18_7 := blk_frozen BK449.out 7
     go_wp2
     go_meet
     case rel => exact ⟨_, (true), (by first | rfl | (simp; done) | (simp [*]; done)), H', ⟨by first | omega | exact Nat.le_refl _⟩, ⟨zK BK448.out⟩, ⟨zK BK449.out⟩, ⟨zD HB.out GE448.out GE449.out⟩⟩
   ·rw [if_neg c7] at H
    have c7b0 : (a0_1 == a1_1) = false := beq_eq_false_iff_ne.mpr c7
    have c7b1 : (a0_1 != a1_1) = true := bne_iff_ne.mpr c7
    have H' := Aside0.mk H
    clear H
    have hnb19 := NB448_449.out
    have hnc19 := NB449_448.out
    have hcz20_0 : w5.cell? ⟨gb448, 0, none⟩ = some (.int .i64 a0_0) := (blk_cell BK448.out 0).trans rfl
    have hcz20_1 : w5.cell? ⟨gb448, 1, none⟩ = some (.int .i64 a0_1) := (blk_cell BK448.out 1).trans rfl
    have hcz20_2 : w5.cell? ⟨gb448, 2, none⟩ = some (.int .i64 a0_2) := (blk_cell BK448.out 2).trans rfl
    have hcz20_3 : w5.cell? ⟨gb448, 3, none⟩ = some (.int .i64 a0_3) := (blk_cell BK448.out 3).trans rfl
    have hcz20_4 : w5.cell? ⟨gb448, 4, none⟩ = some (.slice A0_4 l0_4.length c0_4) := (blk_cell BK448.out 4).trans rfl
    have hcz20_5 : w5.cell? ⟨gb448, 5, none⟩ = some (.slice A0_5 l0_5.length c0_5) := (blk_cell BK448.out 5).trans rfl
    have hcz20_6 : w5.cell? ⟨gb448, 6, none⟩ = some (.string a0_6) := (blk_cell BK448.out 6).trans rfl
    have hcz20_7 : w5.cell? ⟨gb448, 7, none⟩ = some (.int .i64 a0_7) := (blk_cell BK448.out 7).trans rfl
    have hfz20_0 := blk_frozen BK448.out 0
    have hfz20_1 := blk_frozen BK448.out 1
    have hfz20_2 := blk_frozen BK448.out 2
    have hfz20_3 := blk_frozen BK448.out 3
    have hfz20_4 := blk_frozen BK448.out 4
    have hfz20_5 := blk_frozen BK448.out 5
    have hfz20_6 := blk_frozen BK448.out 6
    have hfz20_7 := blk_frozen BK448.out 7
    have hcz21_0 : w5.cell? ⟨gb449, 0, none⟩ = some (.int .i64 a1_0) := (blk_cell BK449.out 0).trans rfl
    have hcz21_1 : w5.cell? ⟨gb449, 1, none⟩ = some (.int .i64 a1_1) := (blk_cell BK449.out 1).trans rfl
    have hcz21_2 : w5.cell? ⟨gb449, 2, none⟩ = some (.int .i64 a1_2) := (blk_cell BK449.out 2).trans rfl
    have hcz21_3 : w5.cell? ⟨gb449, 3, none⟩ = some (.int .i64 a1_3) := (blk_cell BK449.out 3).trans rfl
    have hcz21_4 : w5.cell? ⟨gb449, 4, none⟩ = some (.slice A1_4 l1_4.length c1_4) := (blk_cell BK449.out 4).trans rfl
    have hcz21_5 : w5.cell? ⟨gb449, 5, none⟩ = some (.slice A1_5 l1_5.length c1_5) := (blk_cell BK449.out 5).trans rfl
    have hcz21_6 : w5.cell? ⟨gb449, 6, none⟩ = some (.string a1_6) := (blk_cell BK449.out 6).trans rfl
    have hcz21_7 : w5.cell? ⟨gb449, 7, none⟩ = some (.int .i64 a1_7) := (blk_cell BK449.out 7).trans rfl
    have hfz21_0 := blk_frozen BK449.out 0
    have hfz21_1 := blk_frozen BK449.out 1
    have hfz21_2 := blk_frozen BK449.out 2
    have hfz21_3 := blk_frozen BK449.out 3
    have hfz21_4 := blk_frozen BK449.out 4
    have hfz21_5 := blk_frozen BK449.out 5
    have hfz21_6 := blk_frozen BK449.out 6
    have hfz21_7 := blk_frozen BK449.out 7
    go_wp2
    go_meet
    case rel => exact ⟨_, (true), (by first | rfl | (simp; done) | (simp [*]; done)), H', ⟨by first | omega | exact Nat.le_refl _⟩, ⟨zK BK448.out⟩, ⟨zK BK449.out⟩, ⟨zD HB.out GE448.out GE449.out⟩⟩
  ·rw [if_neg c6] at H
   have c6b0 : (a0_0 == a1_0) = false := beq_eq_false_iff_ne.mpr c6
   have c6b1 : (a0_0 != a1_0) = true := bne_iff_ne.mpr c6
   (first | rw [c6b0] | (simp only [i64_w, i32_w]; rw [c6b0]) | skip)
   have H' := Aside0.mk H
   clear H
   have hnb22 := NB448_449.out
   have hnc22 := NB449_448.out
   have hcz23_0 : w5.cell? ⟨gb448, 0, none⟩ = some (.int .i64 a0_0) := (blk_cell BK448.out 0).trans rfl
   have hcz23_1 : w5.cell? ⟨gb448, 1, none⟩ = some (.int .i64 a0_1) := (blk_cell BK448.out 1).trans rfl
   have hcz23_2 : w5.cell? ⟨gb448, 2, none⟩ = some (.int .i64 a0_2) := (blk_cell BK448.out 2).trans rfl
   have hcz23_3 : w5.cell? ⟨gb448, 3, none⟩ = some (.int .i64 a0_3) := (blk_cell BK448.out 3).trans rfl
   have hcz23_4 : w5.cell? ⟨gb448, 4, none⟩ = some (.slice A0_4 l0_4.length c0_4) := (blk_cell BK448.out 4).trans rfl
   have hcz23_5 : w5.cell? ⟨gb448, 5, none⟩ = some (.slice A0_5 l0_5.length c0_5) := (blk_cell BK448.out 5).trans rfl
   have hcz23_6 : w5.cell? ⟨gb448, 6, none⟩ = some (.string a0_6) := (blk_cell BK448.out 6).trans rfl
   have hcz23_7 : w5.cell? ⟨gb448, 7, none⟩ = some (.int .i64 a0_7) := (blk_cell BK448.out 7).trans rfl
   have hfz23_0 := blk_frozen BK448.out 0
   have hfz23_1 := blk_frozen BK448.out 1
   have hfz23_2 := blk_frozen BK448.out 2
   have hfz23_3 := blk_frozen BK448.out 3
   have hfz23_4 := blk_frozen BK448.out 4
   have hfz23_5 := blk_frozen BK448.out 5
   have hfz23_6 := blk_frozen BK448.out 6
   have hfz23_7 := blk_frozen BK448.out 7
   have hcz24_0 : w5.cell? ⟨gb449, 0, none⟩ = some (.int .i64 a1_0) := (blk_cell BK449.out 0).trans rfl
   have hcz24_1 : w5.cell? ⟨gb449, 1, none⟩ = some (.int .i64 a1_1) := (blk_cell BK449.out 1).trans rfl
   have hcz24_2 : w5.cell? ⟨gb449, 2, none⟩ = some (.int .i64 a1_2) := (blk_cell BK449.out 2).trans rfl
   have hcz24_3 : w5.cell? ⟨gb449, 3, none⟩ = some (.int .i64 a1_3) := (blk_cell BK449.out 3).trans rfl
   have hcz24_4 : w5.cell? ⟨gb449, 4, none⟩ = some (.slice A1_4 l1_4.length c1_4) := (blk_cell BK449.out 4).trans rfl
   have hcz24_5 : w5.cell? ⟨gb449, 5, none⟩ = some (.slice A1_5 l1_5.length c1_5) := (blk_cell BK449.out 5).trans rfl
   have hcz24_6 : w5.cell? ⟨gb449, 6, none⟩ = some (.string a1_6) := (blk_cell BK449.out 6).trans rfl
   have hcz24_7 : w5.cell? ⟨gb449, 7, none⟩ = some (.int .i64 a1_7) := (blk_cell BK449.out 7).trans rfl
   have hfz24_0 := blk_frozen BK449.out 0
   have hfz24_1 := blk_frozen BK449.out 1
   have hfz24_2 := blk_frozen BK449.out 2
   have hfz24_3 := blk_frozen BK449.out 3
   have hfz24_4 := blk_frozen BK449.out 4
   have hfz24_5 := blk_frozen BK449.out 5
   have hfz24_6 := blk_frozen BK449.out 6
   have hfz24_7 := blk_frozen BK449.out 7
   go_wp2
   go_meet
   case rel => exact ⟨_, (true), (by first | rfl | (simp; done) | (simp [*]; done)), H', ⟨by first | omega | exact Nat.le_refl _⟩, ⟨zK BK448.out⟩, ⟨zK BK449.out⟩, ⟨zD HB.out GE448.out GE449.out⟩⟩
 case rest =>
  clear HC3
  try clear c1
  try clear c2
  try clear p2
  try clear c6
  try clear c6b0
  try clear c6b1
  try clear c7
  try clear c7b0
  try clear c7b1
  try clear c8
  try clear c8b0
  try clear c8b1
  try clear c9
  try clear c9b0
  try clear c9b1
  try clear c10
  try clear c13
  try clear c16
  try clear c19
  try clear c22
  try clear hcz11_0
  try clear hcz11_1
  try clear hcz11_2
  try clear hcz11_3
  try clear hcz11_4
  try clear hcz11_5
  try clear hcz11_6
  try clear hcz11_7
  try clear hcz12_0
  try clear hcz12_1
  try clear hcz12_2
  try clear hcz12_3
  try clear hcz12_4
  try clear hcz12_5
  try clear hcz12_6
  try clear hcz12_7
  try clear hcz14_0
  try clear hcz14_1
  try clear hcz14_2
  try clear hcz14_3
  try clear hcz14_4
  try clear hcz14_5
  try clear hcz14_6
  try clear hcz14_7
  try clear hcz15_0
  try clear hcz15_1
  try clear hcz15_2
  try clear hcz15_3
  try clear hcz15_4
  try clear hcz15_5
  try clear hcz15_6
  try clear hcz15_7
  try clear hcz17_0
  try clear hcz17_1
  try clear hcz17_2
  try clear hcz17_3
  try clear hcz17_4
  try clear hcz17_5
  try clear hcz17_6
  try clear hcz17_7
  try clear hcz18_0
  try clear hcz18_1
  try clear hcz18_2
  try clear hcz18_3
  try clear hcz18_4
  try clear hcz18_5
  try clear hcz18_6
  try clear hcz18_7
  try clear hcz20_0
  try clear hcz20_1
  try clear hcz20_2
  try clear hcz20_3
  try clear hcz20_4
  try clear hcz20_5
  try clear hcz20_6
  try clear hcz20_7
  try clear hcz21_0
  try clear hcz21_1
  try clear hcz21_2
  try clear hcz21_3
  try clear hcz21_4
  try clear hcz21_5
  try clear hcz21_6
  try clear hcz21_7
  try clear hcz23_0
  try clear hcz23_1
  try clear hcz23_2
  try clear hcz23_3
  try clear hcz23_4
  try clear hcz23_5
  try clear hcz23_6
  try clear hcz23_7
  try clear hcz24_0
  try clear hcz24_1
  try clear hcz24_2
  try clear hcz24_3
  try clear hcz24_4
  try clear hcz24_5
  try clear hcz24_6
  try clear hcz24_7
  try clear hfz11_0
  try clear hfz11_1
  try clear hfz11_2
  try clear hfz11_3
  try clear hfz11_4
  try clear hfz11_5
  try clear hfz11_6
  try clear hfz11_7
  try clear hfz12_0
  try clear hfz12_1
  try clear hfz12_2
  try clear hfz12_3
  try clear hfz12_4
  try clear hfz12_5
  try clear hfz12_6
  try clear hfz12_7
  try clear hfz14_0
  try clear hfz14_1
  try clear hfz14_2
  try clear hfz14_3
  try clear hfz14_4
  try clear hfz14_5
  try clear hfz14_6
  try clear hfz14_7
  try clear hfz15_0
  try clear hfz15_1
  try clear hfz15_2
  try clear hfz15_3
  try clear hfz15_4
  try clear hfz15_5
  try clear hfz15_6
  try clear hfz15_7
  try clear hfz17_0
  try clear hfz17_1
  try clear hfz17_2
  try clear hfz17_3
  try clear hfz17_4
  try clear hfz17_5
  try clear hfz17_6
  try clear hfz17_7
  try clear hfz18_0
  try clear hfz18_1
  try clear hfz18_2
  try clear hfz18_3
  try clear hfz18_4
  try clear hfz18_5
  try clear hfz18_6
  try clear hfz18_7
  try clear hfz20_0
  try clear hfz20_1
  try clear hfz20_2
  try clear hfz20_3
  try clear hfz20_4
  try clear hfz20_5
  try clear hfz20_6
  try clear hfz20_7
  try clear hfz21_0
  try clear hfz21_1
  try clear hfz21_2
  try clear hfz21_3
  try clear hfz21_4
  try clear hfz21_5
  try clear hfz21_6
  try clear hfz21_7
  try clear hfz23_0
  try clear hfz23_1
  try clear hfz23_2
  try clear hfz23_3
  try clear hfz23_4
  try clear hfz23_5
  try clear hfz23_6
  try clear hfz23_7
  try clear hfz24_0
  try clear hfz24_1
  try clear hfz24_2
  try clear hfz24_3
  try clear hfz24_4
  try clear hfz24_5
  try clear hfz24_6
  try clear hfz24_7
  obtain ⟨kq, x37_2, rfl, HA, HJ2, BK448, BK449, HB⟩ := hcut
  cases kq with
  | zero => exact absurd HA.out (by simp [turntableref05_Same.j0])
  | succ kj2 =>
   have H := HA.out
   clear HA
   simp only [turntableref05_Same.j0] at H
   by_cases c25 : x37_2 = true
   ·subst c25
    have H1 : (some false) = some r := by rw [if_pos rfl] at H; exact H
    clear H
    have H := H1
    clear H1
    obtain rfl := Option.some.inj H
    go_wp2
    go_ret
    exact ⟨zF, zD HB.out GE448.out GE449.out⟩
   ·replace c25 := Bool.eq_false_iff.mpr c25
    subst c25
    have H1 : ((turntableref05_Ints.f kj2 l0_4 l1_4).bind fun t450 => (if t450 = true then ((turntableref05_Ints.f kj2 l0_5 l1_5).bind fun t451 => (some t451)) else (some false))) = some r := by rw [if_neg (show ¬ (false = true) by decide)] at H; exact H
    clear H
    have H := H1
    clear H1
    replace H := Option.bind_eq_some_iff.mp H
    obtain ⟨t450, A260, H⟩ := H
    replace H : (if t450 = true then ((turntableref05_Ints.f kj2 l0_5 l1_5).bind fun t451 => (some t451)) else (some false)) = some r := H
    have A26 := Aside0.mk A260
    clear A260
    by_cases c27 : t450 = true
    ·subst c27
     have H1 : ((turntableref05_Ints.f kj2 l0_5 l1_5).bind fun t451 => (some t451)) = some r := by rw [if_pos rfl] at H; exact H
     clear H
     have H := H1
     clear H1
     replace H := Option.bind_eq_some_iff.mp H
     obtain ⟨t451, A280, H⟩ := H
     replace H : (some t451) = some r := H
     have A28 := Aside0.mk A280
     clear A280
     obtain rfl := Option.some.inj H
     have hnb29 := NB448_449.out
     have hnc29 := NB449_448.out
     have hcz30_0 : wc.cell? ⟨gb448, 0, none⟩ = some (.int .i64 a0_0) := (blk_cell BK448.out 0).trans rfl
     have hcz30_1 : wc.cell? ⟨gb448, 1, none⟩ = some (.int .i64 a0_1) := (blk_cell BK448.out 1).trans rfl
     have hcz30_2 : wc.cell? ⟨gb448, 2, none⟩ = some (.int .i64 a0_2) := (blk_cell BK448.out 2).trans rfl
     have hcz30_3 : wc.cell? ⟨gb448, 3, none⟩ = some (.int .i64 a0_3) := (blk_cell BK448.out 3).trans rfl
     have hcz30_4 : wc.cell? ⟨gb448, 4, none⟩ = some (.slice A0_4 l0_4.length c0_4) := (blk_cell BK448.out 4).trans rfl
     have hcz30_5 : wc.cell? ⟨gb448, 5, none⟩ = some (.slice A0_5 l0_5.length c0_5) := (blk_cell BK448.out 5).trans rfl
     have hcz30_6 : wc.cell? ⟨gb448, 6, none⟩ = some (.string a0_6) := (blk_cell BK448.out 6).trans rfl
     have hcz30_7 : wc.cell? ⟨gb448, 7, none⟩ = some (.int .i64 a0_7) := (blk_cell BK448.out 7).trans rfl
     have hfz30_0 := blk_frozen BK448.out 0
     have hfz30_1 := blk_frozen BK448.out 1
     have hfz30_2 := blk_frozen BK448.out 2
     have hfz30_3 := blk_frozen BK448.out 3
     have hfz30_4 := blk_frozen BK448.out 4
     have hfz30_5 := blk_frozen BK448.out 5
     have hfz30_6 := blk_frozen BK448.out 6
     have hfz30_7 := blk_frozen BK448.out 7
     have hcz31_0 : wc.cell? ⟨gb449, 0, none⟩ = some (.int .i64 a1_0) := (blk_cell BK449.out 0).trans rfl
     have hcz31_1 : wc.cell? ⟨gb449, 1, none⟩ = some (.int .i64 a1_1) := (blk_cell BK449.out 1).trans rfl
     have hcz31_2 : wc.cell? ⟨gb449, 2, none⟩ = some (.int .i64 a1_2) := (blk_cell BK449.out 2).trans rfl
     have hcz31_3 : wc.cell? ⟨gb449, 3, none⟩ = some (.int .i64 a1_3) := (blk_cell BK449.out 3).trans rfl
     have hcz31_4 : wc.cell? ⟨gb449, 4, none⟩ = some (.slice A1_4 l1_4.length c1_4) := (blk_cell BK449.out 4).trans rfl
     have hcz31_5 : wc.cell? ⟨gb449, 5, none⟩ = some (.slice A1_5 l1_5.length c1_5) := (blk_cell BK449.out 5).trans rfl
     have hcz31_6 : wc.cell? ⟨gb449, 6, none⟩ = some (.string a1_6) := (blk_cell BK449.out 6).trans rfl
     have hcz31_7 : wc.cell? ⟨gb449, 7, none⟩ = some (.int .i64 a1_7) := (blk_cell BK449.out 7).trans rfl
     have hfz31_0 := blk_frozen BK449.out 0
     have hfz31_1 := blk_frozen BK449.out 1
     have hfz31_2 := blk_frozen BK449.out 2
     have hfz31_3 := blk_frozen BK449.out 3
     have hfz31_4 := blk_frozen BK449.out 4
     have hfz31_5 := blk_frozen BK449.out 5
     have hfz31_6 := blk_frozen BK449.out 6
     have hfz31_7 := blk_frozen BK449.out 7
     go_wp2_with (first | ((with_reducible refine gate_callee (f := 89) rfl ?_); refine goesL_ (some 42) rfl rfl Try.func89 (by kernel_rfl) rfl #[.slice A0_4 l0_4.length c0_4, .slice A1_4 l1_4.length c1_4] rfl zA ?_; (with_reducible refine (turntableref05_Ints.calls kj2 _ _ l0_4 _ _ l1_4 true _ ?side1 ?side2 ?side3 ?side4 A26.out).mono ?_); (case side1 => repeat (first | exact (Kd.C_below HR0_4.out HB.out) | (with_reducible refine Kd.C_alloc ?_ _) | (with_reducible refine Kd.C_drewN ?_ _) | (with_reducible refine Kd.C_drew ?_))); (case side2 => exact HC0_4.out); (case side3 => repeat (first | exact (Kd.C_below HR1_4.out HB.out) | (with_reducible refine Kd.C_alloc ?_ _) | (with_reducible refine Kd.C_drewN ?_ _) | (with_reducible refine Kd.C_drew ?_))); (case side4 => exact HC1_4.out); rintro e w' ⟨rfl, ⟨nd, rfl⟩⟩; refine ⟨_, rfl, ?_⟩) | (go_at_call 89; (with_reducible refine (turntableref05_Ints.calls kj2 _ _ l0_5 _ _ l1_5 t451 _ ?side1 ?side2 ?side3 ?side4 A28.out).mono ?_); (case side1 => repeat (first | exact (Kd.C_below HR0_5.out (zD HB.out GE448.out GE449.out)) | (with_reducible refine Kd.C_alloc ?_ _) | (with_reducible refine Kd.C_drewN ?_ _) | (with_reducible refine Kd.C_drew ?_))); (case side2 => exact HC0_5.out); (case side3 => repeat (first | exact (Kd.C_below HR1_5.out (zD HB.out GE448.out GE449.out)) | (with_reducible refine Kd.C_alloc ?_ _) | (with_reducible refine Kd.C_drewN ?_ _) | (with_reducible refine Kd.C_drew ?_))); (case side4 => exact HC1_5.out); rintro e w' ⟨rfl, ⟨nd, rfl⟩⟩))
     go_ret
     exact ⟨zF, zD HB.out GE448.out GE449.out⟩
    ·replace c27 := Bool.eq_false_iff.mpr c27
     subst c27
     have H1 : (some false) = some r := by rw [if_neg (show ¬ (false = true) by decide)] at H; exact H
     clear H
     have H := H1
     clear H1
     obtain rfl := Option.some.inj H
     have hnb32 := NB448_449.out
     have hnc32 := NB449_448.out
     have hcz33_0 : wc.cell? ⟨gb448, 0, none⟩ = some (.int .i64 a0_0) := (blk_cell BK448.out 0).trans rfl
     have hcz33_1 : wc.cell? ⟨gb448, 1, none⟩ = some (.int .i64 a0_1) := (blk_cell BK448.out 1).trans rfl
     have hcz33_2 : wc.cell? ⟨gb448, 2, none⟩ = some (.int .i64 a0_2) := (blk_cell BK448.out 2).trans rfl
     have hcz33_3 : wc.cell? ⟨gb448, 3, none⟩ = some (.int .i64 a0_3) := (blk_cell BK448.out 3).trans rfl
     have hcz33_4 : wc.cell? ⟨gb448, 4, none⟩ = some (.slice A0_4 l0_4.length c0_4) := (blk_cell BK448.out 4).trans rfl
     have hcz33_5 : wc.cell? ⟨gb448, 5, none⟩ = some (.slice A0_5 l0_5.length c0_5) := (blk_cell BK448.out 5).trans rfl
     have hcz33_6 : wc.cell? ⟨gb448, 6, none⟩ = some (.string a0_6) := (blk_cell BK448.out 6).trans rfl
     have hcz33_7 : wc.cell? ⟨gb448, 7, none⟩ = some (.int .i64 a0_7) := (blk_cell BK448.out 7).trans rfl
     have hfz33_0 := blk_frozen BK448.out 0
     have hfz33_1 := blk_frozen BK448.out 1
     have hfz33_2 := blk_frozen BK448.out 2
     have hfz33_3 := blk_frozen BK448.out 3
     have hfz33_4 := blk_frozen BK448.out 4
     have hfz33_5 := blk_frozen BK448.out 5
     have hfz33_6 := blk_frozen BK448.out 6
     have hfz33_7 := blk_frozen BK448.out 7
     have hcz34_0 : wc.cell? ⟨gb449, 0, none⟩ = some (.int .i64 a1_0) := (blk_cell BK449.out 0).trans rfl
     have hcz34_1 : wc.cell? ⟨gb449, 1, none⟩ = some (.int .i64 a1_1) := (blk_cell BK449.out 1).trans rfl
     have hcz34_2 : wc.cell? ⟨gb449, 2, none⟩ = some (.int .i64 a1_2) := (blk_cell BK449.out 2).trans rfl
     have hcz34_3 : wc.cell? ⟨gb449, 3, none⟩ = some (.int .i64 a1_3) := (blk_cell BK449.out 3).trans rfl
     have hcz34_4 : wc.cell? ⟨gb449, 4, none⟩ = some (.slice A1_4 l1_4.length c1_4) := (blk_cell BK449.out 4).trans rfl
     have hcz34_5 : wc.cell? ⟨gb449, 5, none⟩ = some (.slice A1_5 l1_5.length c1_5) := (blk_cell BK449.out 5).trans rfl
     have hcz34_6 : wc.cell? ⟨gb449, 6, none⟩ = some (.string a1_6) := (blk_cell BK449.out 6).trans rfl
     have hcz34_7 : wc.cell? ⟨gb449, 7, none⟩ = some (.int .i64 a1_7) := (blk_cell BK449.out 7).trans rfl
     have hfz34_0 := blk_frozen BK449.out 0
     have hfz34_1 := blk_frozen BK449.out 1
     have hfz34_2 := blk_frozen BK449.out 2
     have hfz34_3 := blk_frozen BK449.out 3
     have hfz34_4 := blk_frozen BK449.out 4
     have hfz34_5 := blk_frozen BK449.out 5
     have hfz34_6 := blk_frozen BK449.out 6
     have hfz34_7 := blk_frozen BK449.out 7
     go_wp2_with (first | ((with_reducible refine gate_callee (f := 89) rfl ?_); refine goesL_ (some 42) rfl rfl Try.func89 (by kernel_rfl) rfl #[.slice A0_4 l0_4.length c0_4, .slice A1_4 l1_4.length c1_4] rfl zA ?_; (with_reducible refine (turntableref05_Ints.calls kj2 _ _ l0_4 _ _ l1_4 false _ ?side1 ?side2 ?side3 ?side4 A26.out).mono ?_); (case side1 => repeat (first | exact (Kd.C_below HR0_4.out HB.out) | (with_reducible refine Kd.C_alloc ?_ _) | (with_reducible refine Kd.C_drewN ?_ _) | (with_reducible refine Kd.C_drew ?_))); (case side2 => exact HC0_4.out); (case side3 => repeat (first | exact (Kd.C_below HR1_4.out HB.out) | (with_reducible refine Kd.C_alloc ?_ _) | (with_reducible refine Kd.C_drewN ?_ _) | (with_reducible refine Kd.C_drew ?_))); (case side4 => exact HC1_4.out); rintro e w' ⟨rfl, ⟨nd, rfl⟩⟩; refine ⟨_, rfl, ?_⟩))
     go_ret
     exact ⟨zF, zD HB.out GE448.out GE449.out⟩
end Go.Proofs.Ytkjdblbgmomieaa.PSh
end
