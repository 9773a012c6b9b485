import Derived.Test.YtkgjbdbhpohkiaaMr2
import Derived.Test.YtkgjbdbhpohkiaaMr11
import Derived.Test.YtkgjbdbhpohkiaaMr5
import Derived.ScopeJumps
import Derived.Deep.LoopGhost
-- from YtkgjbdbhpohkiaaPLix13
section
namespace Go.Proofs.Ytkgjbdbhpohkiaa.PLi
open Go.RowKit Go.Proofs.YtkgjbdbhpohkiaaW.PrintWords Go.Proofs.YtkgjbdbhpohkiaaW.PrintLast Go.Proofs.YtkgjbdbhpohkiaaW.PrintMore Go.Proofs.Ytkgjbdbhpohkiaa.Zip
attribute [local go_sem] max2_int min2_int max_two min_two max_three min_three max_four min_four   -- for this text's walks alone
set_option linter.unusedVariables false
set_option linter.unusedSimpArgs false
def digits_Index.f (k : Nat) (a0 : ByteArray) (a1 : Int) : Option (Int × Int) := (digits_Parse.f k a0).bind fun bt148 => (if bt148.2 = 0 then (if bt148.1 < 0 then (some (0, 18)) else (if bt148.1 > a1 then (some (0, 18)) else (some (bt148.1, 0)))) else (some (0, bt148.2)))
set_option maxHeartbeats 8000000 in
set_option maxRecDepth 100000 in
theorem digits_Index.calls (k : Nat) (a0 : ByteArray) (a1 : Int) (r1 : Int) (r2 : Int) (w : World) (h : digits_Index.f k a0 a1 = some (r1, r2)) :
  Calls Try.prog 58 #[.string a0, .int .i64 a1] w fun e w' => e = .returned (.tuple #[.int .i64 r1, .int .i64 r2]) ∧ Drawn0 w w' := by
 have H : ((digits_Parse.f k a0).bind fun bt148 => (if bt148.2 = 0 then (if bt148.1 < 0 then (some (0, 18)) else (if bt148.1 > a1 then (some (0, 18)) else (some (bt148.1, 0)))) else (some (0, bt148.2)))) = some (r1, r2) := h
 clear h
 replace H := Option.bind_eq_some_iff.mp H
 obtain ⟨⟨t148, t149⟩, A30, H⟩ := H
 replace H : (if t149 = 0 then (if t148 < 0 then (some (0, 18)) else (if t148 > a1 then (some (0, 18)) else (some (t148, 0)))) else (some (0, t149))) = some (r1, r2) := H
 have A3 := Aside0.mk A30
 clear A30
 by_cases c4 : t149 = 0
 ·rw [if_pos c4] at H
  have c4b0 : (t149 == 0) = true := beq_iff_eq.mpr c4
  have c4b1 : (t149 != 0) = false := bne_eq_false_iff_eq.mpr c4
  clear c4
  by_cases c5 : t148 < 0
  ·rw [if_pos c5] at H
   have c5b0 : decide (t148 < 0) = true := decide_eq_true c5
   clear c5
   simp only [Option.some.injEq, Prod.mk.injEq] at H
   obtain ⟨rfl, rfl⟩ := H
   go_enter Try.func58, Try.ntmps58
   go_wp2_with (first | ((with_reducible refine gate_callee (f := 80) rfl ?_); refine goesL_ (some 10) rfl rfl Try.func80 (by kernel_rfl) rfl #[.string a0] rfl zA ?_; (with_reducible refine (digits_Parse.calls k a0 t148 t149 _ A3.out).mono ?_); rintro e w' ⟨rfl, ⟨nd, rfl⟩⟩; refine ⟨_, rfl, ?_⟩))
   go_ret2
   exact ⟨by first | rfl | (simp; done) | (simp [*]; done), zQ⟩
  ·rw [if_neg c5] at H
   have c5b0 : decide (t148 < 0) = false := decide_eq_false c5
   clear c5
   by_cases c6 : t148 > a1
   ·rw [if_pos c6] at H
    have c6b0 : decide (a1 < t148) = true := decide_eq_true c6
    clear c6
    simp only [Option.some.injEq, Prod.mk.injEq] at H
    obtain ⟨rfl, rfl⟩ := H
    go_enter Try.func58, Try.ntmps58
    go_wp2_with (first | ((with_reducible refine gate_callee (f := 80) rfl ?_); refine goesL_ (some 10) rfl rfl Try.func80 (by kernel_rfl) rfl #[.string a0] rfl zA ?_; (with_reducible refine (digits_Parse.calls k a0 t148 t149 _ A3.out).mono ?_); rintro e w' ⟨rfl, ⟨nd, rfl⟩⟩; refine ⟨_, rfl, ?_⟩))
    go_ret2
    exact ⟨by first | rfl | (simp; done) | (simp [*]; done), zQ⟩
   ·rw [if_neg c6] at H
    have c6b0 : decide (a1 < t148) = false := decide_eq_false c6
    clear c6
    simp only [Option.some.injEq, Prod.mk.injEq] at H
    obtain ⟨rfl, rfl⟩ := H
    go_enter Try.func58, Try.ntmps58
    go_wp2_with (first | ((with_reducible refine gate_callee (f := 80) rfl ?_); refine goesL_ (some 10) rfl rfl Try.func80 (by kernel_rfl) rfl #[.string a0] rfl zA ?_; (with_reducible refine (digits_Parse.calls k a0 t148 t149 _ A3.out).mono ?_); rintro e w' ⟨rfl, ⟨nd, rfl⟩⟩; refine ⟨_, rfl, ?_⟩))
    go_ret2
    exact ⟨by first | rfl | (simp; done) | (simp [*]; done), zQ⟩
 ·rw [if_neg c4] at H
  have c4b0 : (t149 == 0) = false := beq_eq_false_iff_ne.mpr c4
  have c4b1 : (t149 != 0) = true := bne_iff_ne.mpr c4
  simp only [Option.some.injEq, Prod.mk.injEq] at H
  obtain ⟨rfl, rfl⟩ := H
  go_enter Try.func58, Try.ntmps58
  go_wp2_with (first | ((with_reducible refine gate_callee (f := 80) rfl ?_); refine goesL_ (some 10) rfl rfl Try.func80 (by kernel_rfl) rfl #[.string a0] rfl zA ?_; (with_reducible refine (digits_Parse.calls k a0 t148 t149 _ A3.out).mono ?_); rintro e w' ⟨rfl, ⟨nd, rfl⟩⟩; refine ⟨_, rfl, ?_⟩))
  go_ret2
  exact ⟨by first | rfl | (simp; done) | (simp [*]; done), zQ⟩
def listing_reader_index.j0 : Nat → Int → Int → ByteArray → Bool → List (S84) → Int → Int → Int → Int → Option (Int × Int × Int × Int × Int)
 | 0, _, _, _, _, _, _, _, _, _ => none
 | k + 1, x2, x3, x9, x22, x1000, x1001, x1002, x1003, x1004 => if x22 = true then ((listing_reader_fail.f x1000 x1001 x1002 x1003 x1004 x3).bind fun bt155 => (some (0, bt155.1, bt155.2.1, bt155.2.2.1, bt155.2.2.2))) else (if 1 ≤ (x9.size : Int) then ((digits_Index.f k (x9.extract 1 x9.size) x2).bind fun bt159 => (if bt159.2 = 0 then (some (bt159.1, wrap64 (x1001 + 1), x1002, x1003, x1004)) else ((listing_reader_fail.f x1000 x1001 x1002 x1003 x1004 x3).bind fun bt161 => (some (bt159.1, wrap64 (bt161.1 + 1), bt161.2.1, bt161.2.2.1, bt161.2.2.2))))) else (none))
def listing_reader_index.f (k : Nat) (s0_0 : List (S84)) (s0_1 : Int) (s0_2 : Int) (s0_3 : Int) (s0_4 : Int) (a1 : Int) (a2 : Int) (a3 : Int) : Option (Int × Int × Int × Int × Int) := (listing_reader_peek.f s0_0 s0_1 s0_2 s0_3 s0_4).bind fun bt150 => (if (bt150.1.size : Int) < 2 then (listing_reader_index.j0 k a2 a3 bt150.1 true s0_0 bt150.2.1 bt150.2.2.1 bt150.2.2.2.1 bt150.2.2.2.2) else (if 0 < (bt150.1.size : Int) then (listing_reader_index.j0 k a2 a3 bt150.1 ((bt bt150.1 0) != a1) s0_0 bt150.2.1 bt150.2.2.1 bt150.2.2.2.1 bt150.2.2.2.2) else (none)))
set_option maxHeartbeats 8000000 in
set_option maxRecDepth 100000 in
theorem listing_reader_index.calls (k : Nat) (g : Nat) (s0_0 : List (S84)) (s0_1 : Int) (s0_2 : Int) (s0_3 : Int) (s0_4 : Int) (a1 : Int) (a2 : Int) (a3 : Int) (r1 : Int) (r2 : Int) (r3 : Int) (r4 : Int) (r5 : Int) (w0 w : World) (hI : IsS67 w0 w g s0_0 s0_1 s0_2 s0_3 s0_4) (hB : Below w0.heap.size w0 w) (h : listing_reader_index.f k s0_0 s0_1 s0_2 s0_3 s0_4 a1 a2 a3 = some (r1, r2, r3, r4, r5)) :
  Calls Try.prog 82 #[.pointer (some ⟨g, 0, none⟩), .int .u8 a1, .int .i64 a2, .int .i64 a3] w fun e w' => e = .returned (.int .i64 r1) ∧ IsS67 w0 w' g s0_0 r2 r3 r4 r5 ∧ Below w0.heap.size w0 w' ∧ KeepBut w w' g none := by
 have HI0 := Aside0.mk hI
 have HK := Aside0.mk (KeepBut.refl w g none)
 have HL := Aside0.mk hB.size
 clear hI
 have HW0 := Aside0.mk hB.size
 have HB := Aside0.mk hB
 clear hB
 have H : ((listing_reader_peek.f s0_0 s0_1 s0_2 s0_3 s0_4).bind fun bt150 => (if (bt150.1.size : Int) < 2 then (listing_reader_index.j0 k a2 a3 bt150.1 true s0_0 bt150.2.1 bt150.2.2.1 bt150.2.2.2.1 bt150.2.2.2.2) else (if 0 < (bt150.1.size : Int) then (listing_reader_index.j0 k a2 a3 bt150.1 ((bt bt150.1 0) != a1) s0_0 bt150.2.1 bt150.2.2.1 bt150.2.2.2.1 bt150.2.2.2.2) else (none)))) = some (r1, r2, r3, r4, r5) := h
 clear h
 replace H := Option.bind_eq_some_iff.mp H
 obtain ⟨⟨t150, t151, t152, t153, t154⟩, A50, H⟩ := H
 replace H : (if (t150.size : Int) < 2 then (listing_reader_index.j0 k a2 a3 t150 true s0_0 t151 t152 t153 t154) else (if 0 < (t150.size : Int) then (listing_reader_index.j0 k a2 a3 t150 ((bt t150 0) != a1) s0_0 t151 t152 t153 t154) else (none))) = some (r1, r2, r3, r4, r5) := H
 have A5 := Aside0.mk A50
 clear A50
 have HC6 := Aside0.mk H
 clear H
 go_enter Try.func82, Try.ntmps82
 go_upto_region 2 with (first | ((with_reducible refine gate_callee (f := 57) rfl ?_); refine goesL_ (some 13) rfl rfl Try.func57 (by kernel_rfl) rfl #[.pointer (some ⟨g, 0, none⟩)] rfl zA ?_; (with_reducible refine (listing_reader_peek.calls g s0_0 s0_1 s0_2 s0_3 s0_4 t150 t151 t152 t153 t154 w0 _ ?side1 ?side2 A5.out).mono ?_); (case side1 => repeat (first | (with_reducible first | exact HI0.out | apply IsS67.alloc | apply IsS67.drewN | apply IsS67.drew | apply IsS67.set_1 | apply IsS67.set_2 | apply IsS67.set_3 | apply IsS67.set_4) | exact HI0.out)); (case side2 => repeat (first | (with_reducible first | exact HB.out | apply below_alloc | apply pw_below_drewN | apply below_drew1 | refine below_set ?_ (IsS67.ge HI0.out)) | exact HB.out)); rintro e w7 ⟨rfl, hi, hb, hk⟩; refine ⟨_, rfl, ?_⟩; have n0_ := Aside0.mk (KeepBut.trans (by repeat (first | (with_reducible first | exact HK.out | apply KeepBut.set_ | apply keep_drewN | apply keep_drew | apply keep_alloc) | exact HK.out)) hk (.inl rfl)); have n1_ := Aside0.mk (hb); have n2_ := Aside0.mk (hi); clear HK; clear HB; clear HI0; have HK := n0_; have HB := n1_; have HI0 := n2_; clear n0_ n1_ n2_; (try clear hb); (try clear hb2); (try clear hk); (try clear hi)))
 (try simp only [Act.put, List.setIfInBounds_toArray, List.set_cons_zero, List.set_cons_succ])
 go_cut [22] (fun v22 wc => ∃ (kq : Nat) (x22_5 : Bool), v22 = .bool x22_5 ∧ Aside0 (listing_reader_index.j0 kq a2 a3 t150 x22_5 s0_0 t151 t152 t153 t154 = some (r1, r2, r3, r4, r5)) ∧ Aside0 (kq ≤ k) ∧ Aside0 (IsS67 w0 wc g s0_0 t151 t152 t153 t154) ∧ Aside0 (KeepBut w wc g none) ∧ Aside0 (Below w0.heap.size w0 wc))
 case first =>
  have H := HC6.out
  clear HC6
  by_cases c8 : (t150.size : Int) < 2
  ·rw [if_pos c8] at H
   have c8b0 : decide ((t150.size : Int) < 2) = true := decide_eq_true c8
   have c8b1 : decide (t150.size < 2) = true := decide_eq_true (by omega)
   clear c8
   (first | rw [c8b0] | (simp only [i64_w, i32_w]; rw [c8b0]) | skip)
   have H' := Aside0.mk H
   clear H
   go_wp2
   go_meet
   case rel => exact ⟨_, (true), (by first | rfl | (simp; done) | (simp [*]; done)), H', ⟨by first | omega | exact Nat.le_refl _⟩, ⟨by repeat (first | (with_reducible first | exact HI0.out | apply IsS67.alloc | apply IsS67.drewN | apply IsS67.drew | apply IsS67.set_1 | apply IsS67.set_2 | apply IsS67.set_3 | apply IsS67.set_4) | exact HI0.out)⟩, ⟨by repeat (first | (with_reducible first | exact HK.out | apply KeepBut.set_ | apply keep_drewN | apply keep_drew | apply keep_alloc) | exact HK.out)⟩, ⟨zC HB.out (IsS67.ge HI0.out)⟩⟩
  ·rw [if_neg c8] at H
   have c8b0 : decide ((t150.size : Int) < 2) = false := decide_eq_false c8
   have c8b1 : decide (t150.size < 2) = false := decide_eq_false (by omega)
   clear c8
   (first | rw [c8b0] | (simp only [i64_w, i32_w]; rw [c8b0]) | skip)
   by_cases c9 : 0 < (t150.size : Int)
   ·rw [if_pos c9] at H
    have c9b0 : decide (0 < (t150.size : Int)) = true := decide_eq_true c9
    have c9b1 : decide (0 < t150.size) = true := decide_eq_true (by omega)
    clear c9
    have H' := Aside0.mk H
    clear H
    have p10 : 0 ≤ (0 : Int) := (by omega)
    have q10 : 0 < t150.size := (by have : (0 : Int) < (t150.size : Int) := of_decide_eq_true zS; omega)
    have hx10 : ∀ h : 0 < t150.size, ((t150[0]'h).toNat : Int) = bt t150 0 := bt_at t150 0
    clear p10
    have qi10 : (0 < (t150.size : Int)) = True := eq_true (of_decide_eq_true zS)
    replace q10 := eq_true q10
    go_wp2
    go_meet
    case rel => exact ⟨_, (((bt t150 0) != a1)), (by first | rfl | (simp; done) | (simp [*]; done)), H', ⟨by first | omega | exact Nat.le_refl _⟩, ⟨by repeat (first | (with_reducible first | exact HI0.out | apply IsS67.alloc | apply IsS67.drewN | apply IsS67.drew | apply IsS67.set_1 | apply IsS67.set_2 | apply IsS67.set_3 | apply IsS67.set_4) | exact HI0.out)⟩, ⟨by repeat (first | (with_reducible first | exact HK.out | apply KeepBut.set_ | apply keep_drewN | apply keep_drew | apply keep_alloc) | exact HK.out)⟩, ⟨zC HB.out (IsS67.ge HI0.out)⟩⟩
   ·rw [if_neg c9] at H
    exact absurd H (by simp)
 case rest =>
  clear HC6
  try clear p1
  try clear q1
  try clear hx1
  try clear qi1
  try clear p2
  try clear c5
  try clear c8
  try clear c8b0
  try clear c8b1
  try clear c9
  try clear c9b0
  try clear c9b1
  try clear p10
  try clear q10
  try clear hx10
  try clear qi10
  try clear p10
  try clear q10
  obtain ⟨kq, x22_5, rfl, HA, HJ5, HI0, HK, HB⟩ := hcut
  cases kq with
  | zero => exact absurd HA.out (by simp [listing_reader_index.j0])
  | succ kj5 =>
   have H := HA.out
   clear HA
   simp only [listing_reader_index.j0] at H
   by_cases c11 : x22_5 = true
   ·subst c11
    have H1 : ((listing_reader_fail.f s0_0 t151 t152 t153 t154 a3).bind fun bt155 => (some (0, bt155.1, bt155.2.1, bt155.2.2.1, bt155.2.2.2))) = some (r1, r2, r3, r4, r5) := by rw [if_pos rfl] at H; exact H
    clear H
    have H := H1
    clear H1
    replace H := Option.bind_eq_some_iff.mp H
    obtain ⟨⟨t155, t156, t157, t158⟩, A120, H⟩ := H
    replace H : (some (0, t155, t156, t157, t158)) = some (r1, r2, r3, r4, r5) := H
    have A12 := Aside0.mk A120
    clear A120
    simp only [Option.some.injEq, Prod.mk.injEq] at H
    obtain ⟨rfl, rfl, rfl, rfl, rfl⟩ := H
    go_wp2_with (first | ((with_reducible refine gate_callee (f := 59) rfl ?_); refine goesL_ (some 25) rfl rfl Try.func59 (by kernel_rfl) rfl #[.pointer (some ⟨g, 0, none⟩), .int .i64 a3] rfl zA ?_; (with_reducible refine (listing_reader_fail.calls g s0_0 t151 t152 t153 t154 a3 t155 t156 t157 t158 w0 _ ?side1 ?side2 A12.out).mono ?_); (case side1 => repeat (first | (with_reducible first | exact HI0.out | apply IsS67.alloc | apply IsS67.drewN | apply IsS67.drew | apply IsS67.set_1 | apply IsS67.set_2 | apply IsS67.set_3 | apply IsS67.set_4) | exact HI0.out)); (case side2 => repeat (first | (with_reducible first | exact HB.out | apply below_alloc | apply pw_below_drewN | apply below_drew1 | refine below_set ?_ (IsS67.ge HI0.out)) | exact HB.out)); rintro e w13 ⟨rfl, hi, hb, hk⟩; refine ⟨_, rfl, ?_⟩; have n0_ := Aside0.mk (KeepBut.trans (by repeat (first | (with_reducible first | exact HK.out | apply KeepBut.set_ | apply keep_drewN | apply keep_drew | apply keep_alloc) | exact HK.out)) hk (.inl rfl)); have n1_ := Aside0.mk (hb); have n2_ := Aside0.mk (hi); clear HK; clear HB; clear HI0; have HK := n0_; have HB := n1_; have HI0 := n2_; clear n0_ n1_ n2_; (try clear hb); (try clear hb2); (try clear hk); (try clear hi)))
    go_ret
    exact ⟨zF, by repeat (first | (with_reducible first | exact HI0.out | apply IsS67.alloc | apply IsS67.drewN | apply IsS67.drew | apply IsS67.set_1 | apply IsS67.set_2 | apply IsS67.set_3 | apply IsS67.set_4) | exact HI0.out), zC HB.out (IsS67.ge HI0.out), by repeat (first | (with_reducible first | exact HK.out | apply KeepBut.set_ | apply keep_drewN | apply keep_drew | apply keep_alloc) | exact HK.out)⟩
   ·replace c11 := Bool.eq_false_iff.mpr c11
    subst c11
    have H1 : (if 1 ≤ (t150.size : Int) then ((digits_Index.f kj5 (t150.extract 1 t150.size) a2).bind fun bt159 => (if bt159.2 = 0 then (some (bt159.1, wrap64 (t151 + 1), t152, t153, t154)) else ((listing_reader_fail.f s0_0 t151 t152 t153 t154 a3).bind fun bt161 => (some (bt159.1, wrap64 (bt161.1 + 1), bt161.2.1, bt161.2.2.1, bt161.2.2.2))))) else (none)) = some (r1, r2, r3, r4, r5) := by rw [if_neg (show ¬ (false = true) by decide)] at H; exact H
    clear H
    have H := H1
    clear H1
    by_cases c14 : 1 ≤ (t150.size : Int)
    ·rw [if_pos c14] at H
     have c14b0 := eq_true c14
     have c14b1 : decide (1 ≤ (t150.size : Int)) = true := decide_eq_true c14
     clear c14
     replace H := Option.bind_eq_some_iff.mp H
     obtain ⟨⟨t159, t160⟩, A150, H⟩ := H
     replace H : (if t160 = 0 then (some (t159, wrap64 (t151 + 1), t152, t153, t154)) else ((listing_reader_fail.f s0_0 t151 t152 t153 t154 a3).bind fun bt161 => (some (t159, wrap64 (bt161.1 + 1), bt161.2.1, bt161.2.2.1, bt161.2.2.2)))) = some (r1, r2, r3, r4, r5) := H
     have A15 := Aside0.mk A150
     clear A150
     by_cases c16 : t160 = 0
     ·rw [if_pos c16] at H
      have c16b0 : (t160 == 0) = true := beq_iff_eq.mpr c16
      have c16b1 : (t160 != 0) = false := bne_eq_false_iff_eq.mpr c16
      clear c16
      simp only [Option.some.injEq, Prod.mk.injEq] at H
      obtain ⟨rfl, rfl, rfl, rfl, rfl⟩ := H
      go_wp2_with (first | ((with_reducible refine gate_callee (f := 58) rfl ?_); refine goesL_ (some 30) rfl rfl Try.func58 (by kernel_rfl) rfl #[.string (t150.extract 1 t150.size), .int .i64 a2] rfl zA ?_; (with_reducible refine (digits_Index.calls kj5 (t150.extract 1 t150.size) a2 t159 t160 _ A15.out).mono ?_); rintro e w' ⟨rfl, ⟨nd, rfl⟩⟩; refine ⟨_, rfl, ?_⟩; (try (rw [drewN_self wc]; generalize hq_ : World.drewN wc _ = wc; have n0_ : Aside0 (IsS67 w0 wc g s0_0 t151 t152 t153 t154) := ⟨by rw [← hq_]; exact (by repeat (first | (with_reducible first | exact HI0.out | apply IsS67.alloc | apply IsS67.drewN | apply IsS67.drew | apply IsS67.set_1 | apply IsS67.set_2 | apply IsS67.set_3 | apply IsS67.set_4) | exact HI0.out))⟩; have n1_ : Aside0 (KeepBut w wc g none) := ⟨by rw [← hq_]; exact (by repeat (first | (with_reducible first | exact HK.out | apply KeepBut.set_ | apply keep_drewN | apply keep_drew | apply keep_alloc) | exact HK.out))⟩; have n2_ : Aside0 (Below w0.heap.size w0 wc) := ⟨by rw [← hq_]; exact (zC HB.out (IsS67.ge HI0.out))⟩; clear HI0 HK HB hq_; have HI0 := n0_; have HK := n1_; have HB := n2_; clear n0_ n1_ n2_)); obtain ⟨ASz17_0, cSz17_0, HGz17, hgz17, HSz17_0⟩ := HI0.out; have hcz17_0 := cellS67_0 HGz17; have hcz17_1 := cellS67_1 HGz17; have hcz17_2 := cellS67_2 HGz17; have hcz17_3 := cellS67_3 HGz17; have hcz17_4 := cellS67_4 HGz17; have hfz17_1 := blk_frozen HGz17 1; have hfz17_2 := blk_frozen HGz17 2; have hfz17_3 := blk_frozen HGz17 3; have hfz17_4 := blk_frozen HGz17 4; clear HGz17 hgz17))
      go_ret
      exact ⟨zF, by repeat (first | (with_reducible first | exact HI0.out | apply IsS67.alloc | apply IsS67.drewN | apply IsS67.drew | apply IsS67.set_1 | apply IsS67.set_2 | apply IsS67.set_3 | apply IsS67.set_4) | exact HI0.out), zC HB.out (IsS67.ge HI0.out), by repeat (first | (with_reducible first | exact HK.out | apply KeepBut.set_ | apply keep_drewN | apply keep_drew | apply keep_alloc) | exact HK.out)⟩
     ·rw [if_neg c16] at H
      have c16b0 : (t160 == 0) = false := beq_eq_false_iff_ne.mpr c16
      have c16b1 : (t160 != 0) = true := bne_iff_ne.mpr c16
      replace H := Option.bind_eq_some_iff.mp H
      obtain ⟨⟨t161, t162, t163, t164⟩, A180, H⟩ := H
      replace H : (some (t159, wrap64 (t161 + 1), t162, t163, t164)) = some (r1, r2, r3, r4, r5) := H
      have A18 := Aside0.mk A180
      clear A180
      simp only [Option.some.injEq, Prod.mk.injEq] at H
      obtain ⟨rfl, rfl, rfl, rfl, rfl⟩ := H
      go_wp2_with (first | ((with_reducible refine gate_callee (f := 58) rfl ?_); refine goesL_ (some 30) rfl rfl Try.func58 (by kernel_rfl) rfl #[.string (t150.extract 1 t150.size), .int .i64 a2] rfl zA ?_; (with_reducible refine (digits_Index.calls kj5 (t150.extract 1 t150.size) a2 t159 t160 _ A15.out).mono ?_); rintro e w' ⟨rfl, ⟨nd, rfl⟩⟩; refine ⟨_, rfl, ?_⟩; (try (rw [drewN_self wc]; generalize hq_ : World.drewN wc _ = wc; have n0_ : Aside0 (IsS67 w0 wc g s0_0 t151 t152 t153 t154) := ⟨by rw [← hq_]; exact (by repeat (first | (with_reducible first | exact HI0.out | apply IsS67.alloc | apply IsS67.drewN | apply IsS67.drew | apply IsS67.set_1 | apply IsS67.set_2 | apply IsS67.set_3 | apply IsS67.set_4) | exact HI0.out))⟩; have n1_ : Aside0 (KeepBut w wc g none) := ⟨by rw [← hq_]; exact (by repeat (first | (with_reducible first | exact HK.out | apply KeepBut.set_ | apply keep_drewN | apply keep_drew | apply keep_alloc) | exact HK.out))⟩; have n2_ : Aside0 (Below w0.heap.size w0 wc) := ⟨by rw [← hq_]; exact (zC HB.out (IsS67.ge HI0.out))⟩; clear HI0 HK HB hq_; have HI0 := n0_; have HK := n1_; have HB := n2_; clear n0_ n1_ n2_))) | ((with_reducible refine gate_callee (f := 59) rfl ?_); refine goesL_ (some 37) rfl rfl Try.func59 (by kernel_rfl) rfl #[.pointer (some ⟨g, 0, none⟩), .int .i64 a3] rfl zA ?_; (with_reducible refine (listing_reader_fail.calls g s0_0 t151 t152 t153 t154 a3 t161 t162 t163 t164 w0 _ ?side1 ?side2 A18.out).mono ?_); (case side1 => repeat (first | (with_reducible first | exact HI0.out | apply IsS67.alloc | apply IsS67.drewN | apply IsS67.drew | apply IsS67.set_1 | apply IsS67.set_2 | apply IsS67.set_3 | apply IsS67.set_4) | exact HI0.out)); (case side2 => repeat (first | (with_reducible first | exact HB.out | apply below_alloc | apply pw_below_drewN | apply below_drew1 | refine below_set ?_ (IsS67.ge HI0.out)) | exact HB.out)); rintro e w19 ⟨rfl, hi, hb, hk⟩; refine ⟨_, rfl, ?_⟩; have n0_ := Aside0.mk (KeepBut.trans (by repeat (first | (with_reducible first | exact HK.out | apply KeepBut.set_ | apply keep_drewN | apply keep_drew | apply keep_alloc) | exact HK.out)) hk (.inl rfl)); have n1_ := Aside0.mk (hb); have n2_ := Aside0.mk (hi); clear HK; clear HB; clear HI0; have HK := n0_; have HB := n1_; have HI0 := n2_; clear n0_ n1_ n2_; (try clear hb); (try clear hb2); (try clear hk); (try clear hi); obtain ⟨ASz20_0, cSz20_0, HGz20, hgz20, HSz20_0⟩ := HI0.out; have hcz20_0 := cellS67_0 HGz20; have hcz20_1 := cellS67_1 HGz20; have hcz20_2 := cellS67_2 HGz20; have hcz20_3 := cellS67_3 HGz20; have hcz20_4 := cellS67_4 HGz20; have hfz20_1 := blk_frozen HGz20 1; have hfz20_2 := blk_frozen HGz20 2; have hfz20_3 := blk_frozen HGz20 3; have hfz20_4 := blk_frozen HGz20 4; clear HGz20 hgz20))
      go_ret
      exact ⟨zF, by repeat (first | (with_reducible first | exact HI0.out | apply IsS67.alloc | apply IsS67.drewN | apply IsS67.drew | apply IsS67.set_1 | apply IsS67.set_2 | apply IsS67.set_3 | apply IsS67.set_4) | exact HI0.out), zC HB.out (IsS67.ge HI0.out), by repeat (first | (with_reducible first | exact HK.out | apply KeepBut.set_ | apply keep_drewN | apply keep_drew | apply keep_alloc) | exact HK.out)⟩
    ·rw [if_neg c14] at H
     exact absurd H (by simp)
def listing_reader_slot.f (k : Nat) (s0_0 : List (S84)) (s0_1 : Int) (s0_2 : Int) (s0_3 : Int) (s0_4 : Int) : Option (Int × Int × Int × Int × Int) := (listing_reader_peek.f s0_0 s0_1 s0_2 s0_3 s0_4).bind fun bt165 => (if bt165.1.toList = ([95] : List UInt8) then (some ((-1), wrap64 (bt165.2.1 + 1), bt165.2.2.1, bt165.2.2.2.1, bt165.2.2.2.2)) else ((listing_reader_index.f k s0_0 bt165.2.1 bt165.2.2.1 bt165.2.2.2.1 bt165.2.2.2.2 115 4095 8).bind fun bt170 => (some (bt170.1, bt170.2.1, bt170.2.2.1, bt170.2.2.2.1, bt170.2.2.2.2))))
set_option maxHeartbeats 8000000 in
set_option maxRecDepth 100000 in
theorem listing_reader_slot.calls (k : Nat) (g : Nat) (s0_0 : List (S84)) (s0_1 : Int) (s0_2 : Int) (s0_3 : Int) (s0_4 : Int) (r1 : Int) (r2 : Int) (r3 : Int) (r4 : Int) (r5 : Int) (w0 w : World) (hI : IsS67 w0 w g s0_0 s0_1 s0_2 s0_3 s0_4) (hB : Below w0.heap.size w0 w) (h : listing_reader_slot.f k s0_0 s0_1 s0_2 s0_3 s0_4 = some (r1, r2, r3, r4, r5)) :
  Calls Try.prog 79 #[.pointer (some ⟨g, 0, none⟩)] w fun e w' => e = .returned (.int .i64 r1) ∧ IsS67 w0 w' g s0_0 r2 r3 r4 r5 ∧ Below w0.heap.size w0 w' ∧ KeepBut w w' g none := by
 have HI0 := Aside0.mk hI
 have HK := Aside0.mk (KeepBut.refl w g none)
 have HL := Aside0.mk hB.size
 clear hI
 have HW0 := Aside0.mk hB.size
 have HB := Aside0.mk hB
 clear hB
 have H : ((listing_reader_peek.f s0_0 s0_1 s0_2 s0_3 s0_4).bind fun bt165 => (if bt165.1.toList = ([95] : List UInt8) then (some ((-1), wrap64 (bt165.2.1 + 1), bt165.2.2.1, bt165.2.2.2.1, bt165.2.2.2.2)) else ((listing_reader_index.f k s0_0 bt165.2.1 bt165.2.2.1 bt165.2.2.2.1 bt165.2.2.2.2 115 4095 8).bind fun bt170 => (some (bt170.1, bt170.2.1, bt170.2.2.1, bt170.2.2.2.1, bt170.2.2.2.2))))) = some (r1, r2, r3, r4, r5) := h
 clear h
 replace H := Option.bind_eq_some_iff.mp H
 obtain ⟨⟨t165, t166, t167, t168, t169⟩, A20, H⟩ := H
 replace H : (if t165.toList = ([95] : List UInt8) then (some ((-1), wrap64 (t166 + 1), t167, t168, t169)) else ((listing_reader_index.f k s0_0 t166 t167 t168 t169 115 4095 8).bind fun bt170 => (some (bt170.1, bt170.2.1, bt170.2.2.1, bt170.2.2.2.1, bt170.2.2.2.2)))) = some (r1, r2, r3, r4, r5) := H
 have A2 := Aside0.mk A20
 clear A20
 by_cases c3 : t165.toList = ([95] : List UInt8)
 ·rw [if_pos c3] at H
  have c3b0 : (t165.toList == ([95] : List UInt8)) = true := beq_iff_eq.mpr c3
  have c3b1 : (t165.toList != ([95] : List UInt8)) = false := bne_eq_false_iff_eq.mpr c3
  clear c3
  simp only [Option.some.injEq, Prod.mk.injEq] at H
  obtain ⟨rfl, rfl, rfl, rfl, rfl⟩ := H
  go_enter Try.func79, Try.ntmps79
  go_wp2_with (first | ((with_reducible refine gate_callee (f := 57) rfl ?_); refine goesL_ (some 4) rfl rfl Try.func57 (by kernel_rfl) rfl #[.pointer (some ⟨g, 0, none⟩)] rfl zA ?_; (with_reducible refine (listing_reader_peek.calls g s0_0 s0_1 s0_2 s0_3 s0_4 t165 t166 t167 t168 t169 w0 _ ?side1 ?side2 A2.out).mono ?_); (case side1 => repeat (first | (with_reducible first | exact HI0.out | apply IsS67.alloc | apply IsS67.drewN | apply IsS67.drew | apply IsS67.set_1 | apply IsS67.set_2 | apply IsS67.set_3 | apply IsS67.set_4) | exact HI0.out)); (case side2 => repeat (first | (with_reducible first | exact HB.out | apply below_alloc | apply pw_below_drewN | apply below_drew1 | refine below_set ?_ (IsS67.ge HI0.out)) | exact HB.out)); rintro e w4 ⟨rfl, hi, hb, hk⟩; refine ⟨_, rfl, ?_⟩; have n0_ := Aside0.mk (KeepBut.trans (by repeat (first | (with_reducible first | exact HK.out | apply KeepBut.set_ | apply keep_drewN | apply keep_drew | apply keep_alloc) | exact HK.out)) hk (.inl rfl)); have n1_ := Aside0.mk (hb); have n2_ := Aside0.mk (hi); clear HK; clear HB; clear HI0; have HK := n0_; have HB := n1_; have HI0 := n2_; clear n0_ n1_ n2_; (try clear hb); (try clear hb2); (try clear hk); (try clear hi); obtain ⟨ASz5_0, cSz5_0, HGz5, hgz5, HSz5_0⟩ := HI0.out; have hcz5_0 := cellS67_0 HGz5; have hcz5_1 := cellS67_1 HGz5; have hcz5_2 := cellS67_2 HGz5; have hcz5_3 := cellS67_3 HGz5; have hcz5_4 := cellS67_4 HGz5; have hfz5_1 := blk_frozen HGz5 1; have hfz5_2 := blk_frozen HGz5 2; have hfz5_3 := blk_frozen HGz5 3; have hfz5_4 := blk_frozen HGz5 4; clear HGz5 hgz5))
  go_ret
  exact ⟨zF, by repeat (first | (with_reducible first | exact HI0.out | apply IsS67.alloc | apply IsS67.drewN | apply IsS67.drew | apply IsS67.set_1 | apply IsS67.set_2 | apply IsS67.set_3 | apply IsS67.set_4) | exact HI0.out), zC HB.out (IsS67.ge HI0.out), by repeat (first | (with_reducible first | exact HK.out | apply KeepBut.set_ | apply keep_drewN | apply keep_drew | apply keep_alloc) | exact HK.out)⟩
 ·rw [if_neg c3] at H
  have c3b0 : (t165.toList == ([95] : List UInt8)) = false := beq_eq_false_iff_ne.mpr c3
  have c3b1 : (t165.toList != ([95] : List UInt8)) = true := bne_iff_ne.mpr c3
  replace H := Option.bind_eq_some_iff.mp H
  obtain ⟨⟨t170, t171, t172, t173, t174⟩, A60, H⟩ := H
  replace H : (some (t170, t171, t172, t173, t174)) = some (r1, r2, r3, r4, r5) := H
  have A6 := Aside0.mk A60
  clear A60
  simp only [Option.some.injEq, Prod.mk.injEq] at H
  obtain ⟨rfl, rfl, rfl, rfl, rfl⟩ := H
  go_enter Try.func79, Try.ntmps79
  go_wp2_with (first | ((with_reducible refine gate_callee (f := 57) rfl ?_); refine goesL_ (some 4) rfl rfl Try.func57 (by kernel_rfl) rfl #[.pointer (some ⟨g, 0, none⟩)] rfl zA ?_; (with_reducible refine (listing_reader_peek.calls g s0_0 s0_1 s0_2 s0_3 s0_4 t165 t166 t167 t168 t169 w0 _ ?side1 ?side2 A2.out).mono ?_); (case side1 => repeat (first | (with_reducible first | exact HI0.out | apply IsS67.alloc | apply IsS67.drewN | apply IsS67.drew | apply IsS67.set_1 | apply IsS67.set_2 | apply IsS67.set_3 | apply IsS67.set_4) | exact HI0.out)); (case side2 => repeat (first | (with_reducible first | exact HB.out | apply below_alloc | apply pw_below_drewN | apply below_drew1 | refine below_set ?_ (IsS67.ge HI0.out)) | exact HB.out)); rintro e w7 ⟨rfl, hi, hb, hk⟩; refine ⟨_, rfl, ?_⟩; have n0_ := Aside0.mk (KeepBut.trans (by repeat (first | (with_reducible first | exact HK.out | apply KeepBut.set_ | apply keep_drewN | apply keep_drew | apply keep_alloc) | exact HK.out)) hk (.inl rfl)); have n1_ := Aside0.mk (hb); have n2_ := Aside0.mk (hi); clear HK; clear HB; clear HI0; have HK := n0_; have HB := n1_; have HI0 := n2_; clear n0_ n1_ n2_; (try clear hb); (try clear hb2); (try clear hk); (try clear hi)) | ((with_reducible refine gate_callee (f := 82) rfl ?_); refine goesL_ (some 14) rfl rfl Try.func82 (by kernel_rfl) rfl #[.pointer (some ⟨g, 0, none⟩), .int .u8 115, .int .i64 4095, .int .i64 8] rfl zA ?_; (with_reducible refine (listing_reader_index.calls k g s0_0 t166 t167 t168 t169 115 4095 8 t170 t171 t172 t173 t174 w0 _ ?side1 ?side2 A6.out).mono ?_); (case side1 => repeat (first | (with_reducible first | exact HI0.out | apply IsS67.alloc | apply IsS67.drewN | apply IsS67.drew | apply IsS67.set_1 | apply IsS67.set_2 | apply IsS67.set_3 | apply IsS67.set_4) | exact HI0.out)); (case side2 => repeat (first | (with_reducible first | exact HB.out | apply below_alloc | apply pw_below_drewN | apply below_drew1 | refine below_set ?_ (IsS67.ge HI0.out)) | exact HB.out)); rintro e w8 ⟨rfl, hi, hb, hk⟩; refine ⟨_, rfl, ?_⟩; have n0_ := Aside0.mk (KeepBut.trans (by repeat (first | (with_reducible first | exact HK.out | apply KeepBut.set_ | apply keep_drewN | apply keep_drew | apply keep_alloc) | exact HK.out)) hk (.inl rfl)); have n1_ := Aside0.mk (hb); have n2_ := Aside0.mk (hi); clear HK; clear HB; clear HI0; have HK := n0_; have HB := n1_; have HI0 := n2_; clear n0_ n1_ n2_; (try clear hb); (try clear hb2); (try clear hk); (try clear hi)))
  go_ret
  exact ⟨zF, by repeat (first | (with_reducible first | exact HI0.out | apply IsS67.alloc | apply IsS67.drewN | apply IsS67.drew | apply IsS67.set_1 | apply IsS67.set_2 | apply IsS67.set_3 | apply IsS67.set_4) | exact HI0.out), zC HB.out (IsS67.ge HI0.out), by repeat (first | (with_reducible first | exact HK.out | apply KeepBut.set_ | apply keep_drewN | apply keep_drew | apply keep_alloc) | exact HK.out)⟩
end Go.Proofs.Ytkgjbdbhpohkiaa.PLi
end
-- from YtkgjbdbhpohkiaaPLix11
section
namespace Go.Proofs.Ytkgjbdbhpohkiaa.PLi
open Go.RowKit Go.Proofs.YtkgjbdbhpohkiaaW.PrintWords Go.Proofs.YtkgjbdbhpohkiaaW.PrintLast Go.Proofs.YtkgjbdbhpohkiaaW.PrintMore Go.Proofs.Ytkgjbdbhpohkiaa.Zip
attribute [local go_sem] max2_int min2_int max_two min_two max_three min_three max_four min_four   -- for this text's walks alone
set_option linter.unusedVariables false
set_option linter.unusedSimpArgs false
def listing_reader_want.f (s0_0 : List (S84)) (s0_1 : Int) (s0_2 : Int) (s0_3 : Int) (s0_4 : Int) (a1 : ByteArray) : Option (Int × Int × Int × Int) := (listing_reader_peek.f s0_0 s0_1 s0_2 s0_3 s0_4).bind fun bt139 => (if bt139.1.toList = a1.toList then (some (wrap64 (bt139.2.1 + 1), bt139.2.2.1, bt139.2.2.2.1, bt139.2.2.2.2)) else ((listing_reader_fail.f s0_0 bt139.2.1 bt139.2.2.1 bt139.2.2.2.1 bt139.2.2.2.2 2).bind fun bt144 => (some (wrap64 (bt144.1 + 1), bt144.2.1, bt144.2.2.1, bt144.2.2.2))))
set_option maxHeartbeats 8000000 in
set_option maxRecDepth 100000 in
theorem listing_reader_want.calls (g : Nat) (s0_0 : List (S84)) (s0_1 : Int) (s0_2 : Int) (s0_3 : Int) (s0_4 : Int) (a1 : ByteArray) (r1 : Int) (r2 : Int) (r3 : Int) (r4 : Int) (w0 w : World) (hI : IsS67 w0 w g s0_0 s0_1 s0_2 s0_3 s0_4) (hB : Below w0.heap.size w0 w) (h : listing_reader_want.f s0_0 s0_1 s0_2 s0_3 s0_4 a1 = some (r1, r2, r3, r4)) :
  Calls Try.prog 55 #[.pointer (some ⟨g, 0, none⟩), .string a1] w fun e w' => e = .returned (.tuple #[]) ∧ IsS67 w0 w' g s0_0 r1 r2 r3 r4 ∧ Below w0.heap.size w0 w' ∧ KeepBut w w' g none := by
 have HI0 := Aside0.mk hI
 have HK := Aside0.mk (KeepBut.refl w g none)
 have HL := Aside0.mk hB.size
 clear hI
 have HW0 := Aside0.mk hB.size
 have HB := Aside0.mk hB
 clear hB
 have H : ((listing_reader_peek.f s0_0 s0_1 s0_2 s0_3 s0_4).bind fun bt139 => (if bt139.1.toList = a1.toList then (some (wrap64 (bt139.2.1 + 1), bt139.2.2.1, bt139.2.2.2.1, bt139.2.2.2.2)) else ((listing_reader_fail.f s0_0 bt139.2.1 bt139.2.2.1 bt139.2.2.2.1 bt139.2.2.2.2 2).bind fun bt144 => (some (wrap64 (bt144.1 + 1), bt144.2.1, bt144.2.2.1, bt144.2.2.2))))) = some (r1, r2, r3, r4) := h
 clear h
 replace H := Option.bind_eq_some_iff.mp H
 obtain ⟨⟨t139, t140, t141, t142, t143⟩, A30, H⟩ := H
 replace H : (if t139.toList = a1.toList then (some (wrap64 (t140 + 1), t141, t142, t143)) else ((listing_reader_fail.f s0_0 t140 t141 t142 t143 2).bind fun bt144 => (some (wrap64 (bt144.1 + 1), bt144.2.1, bt144.2.2.1, bt144.2.2.2)))) = some (r1, r2, r3, r4) := H
 have A3 := Aside0.mk A30
 clear A30
 by_cases c4 : t139.toList = a1.toList
 ·rw [if_pos c4] at H
  have c4b0 : (t139.toList == a1.toList) = true := beq_iff_eq.mpr c4
  have c4b1 : (t139.toList != a1.toList) = false := bne_eq_false_iff_eq.mpr c4
  clear c4
  simp only [Option.some.injEq, Prod.mk.injEq] at H
  obtain ⟨rfl, rfl, rfl, rfl⟩ := H
  go_enter Try.func55, Try.ntmps55
  go_wp2_with (first | ((with_reducible refine gate_callee (f := 57) rfl ?_); refine goesL_ (some 5) rfl rfl Try.func57 (by kernel_rfl) rfl #[.pointer (some ⟨g, 0, none⟩)] rfl zA ?_; (with_reducible refine (listing_reader_peek.calls g s0_0 s0_1 s0_2 s0_3 s0_4 t139 t140 t141 t142 t143 w0 _ ?side1 ?side2 A3.out).mono ?_); (case side1 => repeat (first | (with_reducible first | exact HI0.out | apply IsS67.alloc | apply IsS67.drewN | apply IsS67.drew | apply IsS67.set_1 | apply IsS67.set_2 | apply IsS67.set_3 | apply IsS67.set_4) | exact HI0.out)); (case side2 => repeat (first | (with_reducible first | exact HB.out | apply below_alloc | apply pw_below_drewN | apply below_drew1 | refine below_set ?_ (IsS67.ge HI0.out)) | exact HB.out)); rintro e w5 ⟨rfl, hi, hb, hk⟩; refine ⟨_, rfl, ?_⟩; have n0_ := Aside0.mk (KeepBut.trans (by repeat (first | (with_reducible first | exact HK.out | apply KeepBut.set_ | apply keep_drewN | apply keep_drew | apply keep_alloc) | exact HK.out)) hk (.inl rfl)); have n1_ := Aside0.mk (hb); have n2_ := Aside0.mk (hi); clear HK; clear HB; clear HI0; have HK := n0_; have HB := n1_; have HI0 := n2_; clear n0_ n1_ n2_; (try clear hb); (try clear hb2); (try clear hk); (try clear hi); obtain ⟨ASz6_0, cSz6_0, HGz6, hgz6, HSz6_0⟩ := HI0.out; have hcz6_0 := cellS67_0 HGz6; have hcz6_1 := cellS67_1 HGz6; have hcz6_2 := cellS67_2 HGz6; have hcz6_3 := cellS67_3 HGz6; have hcz6_4 := cellS67_4 HGz6; have hfz6_1 := blk_frozen HGz6 1; have hfz6_2 := blk_frozen HGz6 2; have hfz6_3 := blk_frozen HGz6 3; have hfz6_4 := blk_frozen HGz6 4; clear HGz6 hgz6))
  first | go_end0 | ((try simp only [Exit.inBlock, Exit.then]); refine bodyPost_ret (results_none rfl _ _ _) rfl ?_)
  exact ⟨zF, by repeat (first | (with_reducible first | exact HI0.out | apply IsS67.alloc | apply IsS67.drewN | apply IsS67.drew | apply IsS67.set_1 | apply IsS67.set_2 | apply IsS67.set_3 | apply IsS67.set_4) | exact HI0.out), zC HB.out (IsS67.ge HI0.out), by repeat (first | (with_reducible first | exact HK.out | apply KeepBut.set_ | apply keep_drewN | apply keep_drew | apply keep_alloc) | exact HK.out)⟩
 ·rw [if_neg c4] at H
  have c4b0 : (t139.toList == a1.toList) = false := beq_eq_false_iff_ne.mpr c4
  have c4b1 : (t139.toList != a1.toList) = true := bne_iff_ne.mpr c4
  replace H := Option.bind_eq_some_iff.mp H
  obtain ⟨⟨t144, t145, t146, t147⟩, A70, H⟩ := H
  replace H : (some (wrap64 (t144 + 1), t145, t146, t147)) = some (r1, r2, r3, r4) := H
  have A7 := Aside0.mk A70
  clear A70
  simp only [Option.some.injEq, Prod.mk.injEq] at H
  obtain ⟨rfl, rfl, rfl, rfl⟩ := H
  go_enter Try.func55, Try.ntmps55
  go_wp2_with (first | ((with_reducible refine gate_callee (f := 57) rfl ?_); refine goesL_ (some 5) rfl rfl Try.func57 (by kernel_rfl) rfl #[.pointer (some ⟨g, 0, none⟩)] rfl zA ?_; (with_reducible refine (listing_reader_peek.calls g s0_0 s0_1 s0_2 s0_3 s0_4 t139 t140 t141 t142 t143 w0 _ ?side1 ?side2 A3.out).mono ?_); (case side1 => repeat (first | (with_reducible first | exact HI0.out | apply IsS67.alloc | apply IsS67.drewN | apply IsS67.drew | apply IsS67.set_1 | apply IsS67.set_2 | apply IsS67.set_3 | apply IsS67.set_4) | exact HI0.out)); (case side2 => repeat (first | (with_reducible first | exact HB.out | apply below_alloc | apply pw_below_drewN | apply below_drew1 | refine below_set ?_ (IsS67.ge HI0.out)) | exact HB.out)); rintro e w8 ⟨rfl, hi, hb, hk⟩; refine ⟨_, rfl, ?_⟩; have n0_ := Aside0.mk (KeepBut.trans (by repeat (first | (with_reducible first | exact HK.out | apply KeepBut.set_ | apply keep_drewN | apply keep_drew | apply keep_alloc) | exact HK.out)) hk (.inl rfl)); have n1_ := Aside0.mk (hb); have n2_ := Aside0.mk (hi); clear HK; clear HB; clear HI0; have HK := n0_; have HB := n1_; have HI0 := n2_; clear n0_ n1_ n2_; (try clear hb); (try clear hb2); (try clear hk); (try clear hi)) | ((with_reducible refine gate_callee (f := 59) rfl ?_); refine goesL_ (some 9) rfl rfl Try.func59 (by kernel_rfl) rfl #[.pointer (some ⟨g, 0, none⟩), .int .i64 2] rfl zA ?_; (with_reducible refine (listing_reader_fail.calls g s0_0 t140 t141 t142 t143 2 t144 t145 t146 t147 w0 _ ?side1 ?side2 A7.out).mono ?_); (case side1 => repeat (first | (with_reducible first | exact HI0.out | apply IsS67.alloc | apply IsS67.drewN | apply IsS67.drew | apply IsS67.set_1 | apply IsS67.set_2 | apply IsS67.set_3 | apply IsS67.set_4) | exact HI0.out)); (case side2 => repeat (first | (with_reducible first | exact HB.out | apply below_alloc | apply pw_below_drewN | apply below_drew1 | refine below_set ?_ (IsS67.ge HI0.out)) | exact HB.out)); rintro e w9 ⟨rfl, hi, hb, hk⟩; refine ⟨_, rfl, ?_⟩; have n0_ := Aside0.mk (KeepBut.trans (by repeat (first | (with_reducible first | exact HK.out | apply KeepBut.set_ | apply keep_drewN | apply keep_drew | apply keep_alloc) | exact HK.out)) hk (.inl rfl)); have n1_ := Aside0.mk (hb); have n2_ := Aside0.mk (hi); clear HK; clear HB; clear HI0; have HK := n0_; have HB := n1_; have HI0 := n2_; clear n0_ n1_ n2_; (try clear hb); (try clear hb2); (try clear hk); (try clear hi); obtain ⟨ASz10_0, cSz10_0, HGz10, hgz10, HSz10_0⟩ := HI0.out; have hcz10_0 := cellS67_0 HGz10; have hcz10_1 := cellS67_1 HGz10; have hcz10_2 := cellS67_2 HGz10; have hcz10_3 := cellS67_3 HGz10; have hcz10_4 := cellS67_4 HGz10; have hfz10_1 := blk_frozen HGz10 1; have hfz10_2 := blk_frozen HGz10 2; have hfz10_3 := blk_frozen HGz10 3; have hfz10_4 := blk_frozen HGz10 4; clear HGz10 hgz10))
  first | go_end0 | ((try simp only [Exit.inBlock, Exit.then]); refine bodyPost_ret (results_none rfl _ _ _) rfl ?_)
  exact ⟨zF, by repeat (first | (with_reducible first | exact HI0.out | apply IsS67.alloc | apply IsS67.drewN | apply IsS67.drew | apply IsS67.set_1 | apply IsS67.set_2 | apply IsS67.set_3 | apply IsS67.set_4) | exact HI0.out), zC HB.out (IsS67.ge HI0.out), by repeat (first | (with_reducible first | exact HK.out | apply KeepBut.set_ | apply keep_drewN | apply keep_drew | apply keep_alloc) | exact HK.out)⟩
end Go.Proofs.Ytkgjbdbhpohkiaa.PLi
end
-- from YtkgjbdbhpohkiaaHLList
section
namespace Go.Proofs.Ytkgjbdbhpohkiaa.PLi
open Go.RowKit Go.Proofs.YtkgjbdbhpohkiaaW.PrintWords Go.Proofs.YtkgjbdbhpohkiaaW.PrintLast Go.Proofs.YtkgjbdbhpohkiaaW.PrintMore
set_option linter.unusedVariables false
set_option linter.unusedSimpArgs false
theorem wp_scope_ghost {P : Program} {Q : Exit → Act → World → Prop} {a : Act} {w : World} {c rest : Code} (l : Nat) (J : Nat → Act → World → Prop) (hf : findLabel c l = some rest)
  (first : c.wp P (Exit.jump l (fun a' w' => ∃ n, J n a' w') Q) a w)
  (pass : ∀ n a w, J n a w → rest.wp P (Exit.jump l (fun a' w' => Handed J n a' w') Q) a w) : (Code.scope c).wp P Q a w := by
 refine wp_scope_jumps l (fun a' w' => ∃ n, J n a' w') (fun a w => leastOf (fun n => J n a w)) hf first ?_
 intro a w hJ
 refine wp_mono (pass _ a w (leastOf_spec hJ).1) ?_
 intro e a' w' hq
 cases e with
 | goto l' =>
  obtain ⟨rfl, n', hlt, hI'⟩ := hq
  exact ⟨rfl, ⟨n', hI'⟩, Nat.lt_of_le_of_lt ((leastOf_spec ⟨n', hI'⟩).2 n' hI') hlt⟩
 | normal => exact hq
 | exit id => exact hq
 | ret => exact hq
 | panic ch => exact hq
 | outgrown => exact hq
mutual
def listing_reader_list.l0 : Nat → List Int → List (S84) → Int → Int → Int → Int → Option (List Int × Int × Int × Int × Int)
 | 0, _, _, _, _, _, _ => none
 | k + 1, x3, x1000, x1001, x1002, x1003, x1004 => if x1003 = 0 then ((listing_reader_peek.f x1000 x1001 x1002 x1003 x1004).bind fun bt428 => (listing_reader_list.j1 k x3 (bt428.1.toList != ([41] : List UInt8)) x1000 bt428.2.1 bt428.2.2.1 bt428.2.2.2.1 bt428.2.2.2.2)) else (listing_reader_list.j1 k x3 false x1000 x1001 x1002 x1003 x1004)
def listing_reader_list.j1 : Nat → List Int → Bool → List (S84) → Int → Int → Int → Int → Option (List Int × Int × Int × Int × Int)
 | 0, _, _, _, _, _, _, _ => none
 | k + 1, x3, x17, x1000, x1001, x1002, x1003, x1004 => if x17 = true then (if (x3.length : Int) ≥ 8 then ((listing_reader_fail.f x1000 x1001 x1002 x1003 x1004 6).bind fun bt437 => ((listing_reader_slot.f k x1000 bt437.1 bt437.2.1 bt437.2.2.1 bt437.2.2.2).bind fun bt441 => (if x3.length < 17592186044416 then (listing_reader_list.l0 k (x3 ++ [bt441.1]) x1000 bt441.2.1 bt441.2.2.1 bt441.2.2.2.1 bt441.2.2.2.2) else (none)))) else ((listing_reader_slot.f k x1000 x1001 x1002 x1003 x1004).bind fun bt449 => (if x3.length < 17592186044416 then (listing_reader_list.l0 k (x3 ++ [bt449.1]) x1000 bt449.2.1 bt449.2.2.1 bt449.2.2.2.1 bt449.2.2.2.2) else (none)))) else ((listing_reader_want.f x1000 x1001 x1002 x1003 x1004 (⟨#[41]⟩ : ByteArray)).bind fun bt433 => (some (x3, bt433.1, bt433.2.1, bt433.2.2.1, bt433.2.2.2)))
end
def listing_reader_list.f (k : Nat) (s0_0 : List (S84)) (s0_1 : Int) (s0_2 : Int) (s0_3 : Int) (s0_4 : Int) : Option (List Int × Int × Int × Int × Int) := (listing_reader_want.f s0_0 s0_1 s0_2 s0_3 s0_4 (⟨#[40]⟩ : ByteArray)).bind fun bt424 => (listing_reader_list.l0 k ([] : List Int) s0_0 bt424.1 bt424.2.1 bt424.2.2.1 bt424.2.2.2)
theorem row_keep {W W1 : World} {g base : Nat} {v : Value} {xs : List Int} {t : Nat} {cells : Array Value} (hr : Kd.R (Kd.int .i64) 3 W base (fun _ => True) v xs) (hG : W.heap[g]? = some (.cells cells t (0, 0))) (ht : 3 ≠ t) (hk : KeepBut W W1 g none) : Kd.R (Kd.int .i64) 3 W1 base (fun _ => True) v xs :=
 Kd.R_mono (Kd.R_step (Kd.R_far1 hr rfl (Kd.R_ne hr hG ht)) (fun k ho hlt => hk.2 k hlt ho.2 (by simp))) (fun _ _ => trivial)
structure LSt (g : Nat) (s0_0 : List (S84)) (xs : List Int) (v : Value) (s1 s2 s3 s4 : Int) (w0 w w' : World) : Prop where
 r : Kd.R (Kd.int .i64) 3 w' w.heap.size (fun _ => True) v xs
 i : IsS67 w0 w' g s0_0 s1 s2 s3 s4
 b : Below w0.heap.size w0 w'
 k : KeepBut w w' g none
theorem LSt.call {g : Nat} {s0_0 : List (S84)} {xs : List Int} {v : Value} {s1 s2 s3 s4 r1 r2 r3 r4 : Int} {w0 w w1 w2 : World} (h : LSt g s0_0 xs v s1 s2 s3 s4 w0 w w1) (hi : IsS67 w0 w2 g s0_0 r1 r2 r3 r4) (hb : Below w0.heap.size w0 w2) (hk : KeepBut w1 w2 g none) : LSt g s0_0 xs v r1 r2 r3 r4 w0 w w2 := by
 obtain ⟨A0, c0, hG, -, -⟩ := h.i
 exact ⟨row_keep h.r hG (by decide) hk, hi, hb, h.k.trans hk (.inl rfl)⟩
theorem LSt.app {g : Nat} {s0_0 : List (S84)} {xs ys : List Int} {v v1 : Value} {s1 s2 s3 s4 : Int} {w0 w w1 w2 : World} (h : LSt g s0_0 xs v s1 s2 s3 s4 w0 w w1) (hr : Kd.R (Kd.int .i64) 3 w2 w.heap.size (fun _ => True) v1 ys) (hg : w1.grownBy w2 v.ownBlock) (WB : w0.heap.size ≤ w.heap.size) : LSt g s0_0 ys v1 s1 s2 s3 s4 w0 w w2 := by
 obtain ⟨A0, c0, hG, hg0, hS⟩ := h.i
 have hne : some g ≠ v.ownBlock := Kd.R_ne h.r hG (by decide)
 have hb : Below w0.heap.size w0 w2 := pw_below_grown h.b v.ownBlock (Nat.le_trans WB (keep_size h.k)) hg (fun k e => by
  rcases Kd.R_base2 h.r with e0 | ⟨b, e0, hb⟩
  ·rw [e0] at e
   cases e
  ·rw [e0] at e
   injection e with e
   omega)
 exact ⟨hr, IsS67.grown h.i hg hne, hb, h.k.trans (KeepBut.of_grown hg g) ((Kd.R_base2 h.r).imp (fun e => e) (fun e => e))⟩
def ListAt (g : Nat) (s0_0 : List (S84)) (r : List Int × Int × Int × Int × Int) (w0 w : World) (n : Nat) (a' : Act) (w' : World) : Prop :=
 ∃ (xs : List Int) (v : Value) (s1 s2 s3 s4 : Int), (∃ (u4 u5 u6 u7 u8 u9 u10 u11 u12 u13 u14 u15 u16 u17 u18 u19 u20 u21 u22 u23 u24 u25 u26 u27 u28 u29 : Value), a' = { tmps := #[.pointer (some ⟨g, 0, none⟩), undef, .slice none 0 0, v, u4, u5, u6, u7, u8, u9, u10, u11, u12, u13, u14, u15, u16, u17, u18, u19, u20, u21, u22, u23, u24, u25, u26, u27, u28, u29], defers := [] }) ∧ listing_reader_list.l0 n xs s0_0 s1 s2 s3 s4 = some r ∧ LSt g s0_0 xs v s1 s2 s3 s4 w0 w w'
set_option maxHeartbeats 8000000 in
set_option maxRecDepth 100000 in
theorem listing_reader_list.calls (k : Nat) (g : Nat) (s0_0 : List (S84)) (s0_1 s0_2 s0_3 s0_4 : Int) (r1 : List Int) (r2 r3 r4 r5 : Int) (w0 w : World) (hI : IsS67 w0 w g s0_0 s0_1 s0_2 s0_3 s0_4) (hB : Below w0.heap.size w0 w) (h : listing_reader_list.f k s0_0 s0_1 s0_2 s0_3 s0_4 = some (r1, r2, r3, r4, r5)) :
  Calls Try.prog 56 #[.pointer (some ⟨g, 0, none⟩)] w fun e w' => ∃ v0_ : Value, e = .returned (v0_) ∧ Kd.R (Kd.int .i64) 3 w' w.heap.size (fun _ => True) v0_ r1 ∧ IsS67 w0 w' g s0_0 r2 r3 r4 r5 ∧ Below w0.heap.size w0 w' ∧ KeepBut w w' g none := by
 have hu27 := Try.underlying26
 unfold listing_reader_list.f at h
 obtain ⟨⟨t1, t2, t3, t4⟩, hw, h⟩ := Option.bind_eq_some_iff.mp h
 have HW := Aside0.mk hw
 have Hh := Aside0.mk h
 have HI := Aside0.mk hI
 have HB := Aside0.mk hB
 have WB := Aside0.mk hB.size
 clear hI hB hw h
 go_enter Try.func56, Try.ntmps56
 go_wp2
 refine wp_scope_ghost 0 (ListAt g s0_0 (r1, r2, r3, r4, r5) w0 w) rfl ?_ ?_
 ·go_wp2_with fail
  refine (listing_reader_want.calls g s0_0 s0_1 s0_2 s0_3 s0_4 (⟨#[40]⟩ : ByteArray) t1 t2 t3 t4 w0 _ HI.out HB.out HW.out).mono ?_
  rintro e wr ⟨rfl, hi, hb, hk⟩
  go_wp2_with fail
  go_step3
  obtain ⟨xs, hxs⟩ : ∃ xs : List Int, xs = [] := ⟨_, rfl⟩
  obtain ⟨n, hn⟩ : ∃ n, n = k := ⟨_, rfl⟩
  have hl := Hh.out
  have hr : Kd.R (Kd.int .i64) 3 wr w.heap.size (fun _ => True) (.slice none 0 0) xs := by rw [hxs]; exact Kd.R_nil _ _ _ _ _
  rw [← hxs, ← hn] at hl
  have hv0 : xs.length = 0 := by rw [hxs]; rfl
  have HT := Aside0.mk (⟨hr, hi, hb, hk⟩ : LSt g s0_0 xs (.slice none 0 0) t1 t2 t3 t4 w0 w wr)
  have hvv : (Value.slice none 0 0) = .slice none xs.length 0 := by rw [hxs]; rfl
  clear hxs hr hi hb hk
  have HVV := Aside0.mk hvv
  have HV0 := Aside0.mk hv0
  clear hvv hv0
  obtain ⟨A0, c0, hG, hg, hS⟩ := HT.out.i
  have hc3 := cellS67_3 hG
  have HGG := Aside0.mk hG
  clear hg hS hG
  cases n with
  | zero => simp only [listing_reader_list.l0] at hl; cases hl
  | succ n =>
   simp only [listing_reader_list.l0] at hl
   by_cases c3 : t3 = 0
   ·rw [if_pos c3] at hl
    have c3b : (t3 == 0) = true := beq_iff_eq.mpr c3
    obtain ⟨⟨p0, p1, p2, p3, p4⟩, hp, hl⟩ := Option.bind_eq_some_iff.mp hl
    cases n with
    | zero => simp only [listing_reader_list.j1] at hl; cases hl
    | succ n =>
     simp only [listing_reader_list.j1] at hl
     have HP := Aside0.mk hp
     clear hp c3
     cases hb9 : (p0.toList != ([41] : List UInt8)) with
     | true =>
      rw [hb9, if_pos rfl] at hl
      have hb8 : (p0.toList == ([41] : List UInt8)) = false := by simpa using hb9
      clear hb9
      by_cases c8 : (xs.length : Int) ≥ 8
      ·rw [if_pos c8] at hl
       exact absurd c8 (by have := HV0.out; omega)
      ·rw [if_neg c8] at hl
       obtain ⟨⟨y0, y1, y2, y3, y4⟩, hy, hl⟩ := Option.bind_eq_some_iff.mp hl
       by_cases hlen : xs.length < 17592186044416
       rotate_left
       ·rw [if_neg hlen] at hl
        cases hl
       rw [if_pos hlen] at hl
       have c8b : decide ((8 : Int) ≤ (xs.length : Int)) = false := decide_eq_false c8
       have c8c : decide (8 ≤ xs.length) = false := decide_eq_false (by omega)
       have HY := Aside0.mk hy
       have HL := Aside0.mk hl
       have HLen := Aside0.mk hlen
       clear hy hl c8 hlen
       go_wp2_with fail
       refine (listing_reader_peek.calls g s0_0 t1 t2 t3 t4 p0 p1 p2 p3 p4 w0 _ HT.out.i HT.out.b HP.out).mono ?_
       rintro e w5 ⟨rfl, hi5, hb5, hk5⟩
       have HT5 := Aside0.mk (HT.out.call hi5 hb5 hk5)
       clear hi5 hb5 hk5 hc3
       go_wp2_with fail
       refine (listing_reader_slot.calls n g s0_0 p1 p2 p3 p4 y0 y1 y2 y3 y4 w0 _ HT5.out.i HT5.out.b HY.out).mono ?_
       rintro e w6 ⟨rfl, hi6, hb6, hk6⟩
       have HT6 := Aside0.mk (HT5.out.call hi6 hb6 hk6)
       clear hi6 hb6 hk6
       go_wp2_with (first | ((with_reducible refine gate_builtin (b := .append) (xs := #[.tmp 22, .tmp 25]) rfl ?_); at_builtin; refine Kd.R_append (Kd.int .i64) (w0 := w6) w.heap.size rfl (.tmp 22) (.tmp 25) 30 3 (.int .i64 0) 8 rfl Try.underlying30 (by kernel_rfl) rfl (by decide) (by omega) (.slice none 0 0) xs y0 [.int .i64 y0] (fun _ => True) (fun _ => False) rfl rfl rfl (fun _ hk => hk.elim) (fun k hk => trivial) HT6.out.r (Below.refl _ _) (keep_size HT6.out.k) (by have := HLen.out; omega) ?_; intro v1 w9 hr9 hb9 hg9 hv9; have HT9 := Aside0.mk (HT6.out.app hr9 hg9 WB.out); clear hr9 hb9 hg9 hv9))
       go_step3
       exact ⟨rfl, n, _, _, _, _, _, _, ⟨_, _, _, _, _, _, _, _, _, _, _, _, _, _, _, _, _, _, _, _, _, _, _, _, _, _, rfl⟩, HL.out, HT9.out⟩
     | false =>
      rw [hb9, if_neg (by simp)] at hl
      have hb8 : (p0.toList == ([41] : List UInt8)) = true := by simpa using hb9
      clear hb9
      obtain ⟨⟨q1, q2, q3, q4⟩, hq, hl⟩ := Option.bind_eq_some_iff.mp hl
      have HQ := Aside0.mk hq
      simp only [Option.some.injEq, Prod.mk.injEq] at hl
      obtain ⟨rfl, rfl, rfl, rfl, rfl⟩ := hl
      clear hq
      go_wp2_with fail
      refine (listing_reader_peek.calls g s0_0 t1 t2 t3 t4 p0 p1 p2 p3 p4 w0 _ HT.out.i HT.out.b HP.out).mono ?_
      rintro e w5 ⟨rfl, hi5, hb5, hk5⟩
      have HT5 := Aside0.mk (HT.out.call hi5 hb5 hk5)
      clear hi5 hb5 hk5 hc3
      go_wp2_with fail
      refine (listing_reader_want.calls g s0_0 p1 p2 p3 p4 (⟨#[41]⟩ : ByteArray) q1 q2 q3 q4 w0 _ HT5.out.i HT5.out.b HQ.out).mono ?_
      rintro e w6 ⟨rfl, hi6, hb6, hk6⟩
      have HT6 := Aside0.mk (HT5.out.call hi6 hb6 hk6)
      clear hi6 hb6 hk6
      go_wp2
      try simp only [Exit.jump]
      go_ret
      exact ⟨_, rfl, HT6.out.r, HT6.out.i, HT6.out.b, HT6.out.k⟩
   ·rw [if_neg c3] at hl
    have c3b : (t3 == 0) = false := beq_eq_false_iff_ne.mpr c3
    cases n with
    | zero => simp only [listing_reader_list.j1] at hl; cases hl
    | succ n =>
     simp only [listing_reader_list.j1] at hl
     rw [if_neg (by simp)] at hl
     obtain ⟨⟨q1, q2, q3, q4⟩, hq, hl⟩ := Option.bind_eq_some_iff.mp hl
     have HQ := Aside0.mk hq
     simp only [Option.some.injEq, Prod.mk.injEq] at hl
     obtain ⟨rfl, rfl, rfl, rfl, rfl⟩ := hl
     clear hq c3
     go_wp2_with fail
     refine (listing_reader_want.calls g s0_0 t1 t2 t3 t4 (⟨#[41]⟩ : ByteArray) q1 q2 q3 q4 w0 _ HT.out.i HT.out.b HQ.out).mono ?_
     rintro e w6 ⟨rfl, hi6, hb6, hk6⟩
     have HT6 := Aside0.mk (HT.out.call hi6 hb6 hk6)
     clear hi6 hb6 hk6
     go_wp2
     try simp only [Exit.jump]
     go_ret
     exact ⟨_, rfl, HT6.out.r, HT6.out.i, HT6.out.b, HT6.out.k⟩
 ·rintro n a' w' hJ
  obtain ⟨xs, v, t1, t2, t3, t4, hA, hl, hT⟩ := hJ
  obtain ⟨u4, u5, u6, u7, u8, u9, u10, u11, u12, u13, u14, u15, u16, u17, u18, u19, u20, u21, u22, u23, u24, u25, u26, u27, u28, u29, rfl⟩ := hA
  generalize w' = wr at hT ⊢
  obtain ⟨Av, cv_, rfl⟩ := Kd.R_slice hT.r
  have HT := Aside0.mk hT
  clear hT
  obtain ⟨A0, c0, hG, hg, hS⟩ := HT.out.i
  have hc3 := cellS67_3 hG
  have HGG := Aside0.mk hG
  clear hg hS hG
  cases n with
  | zero => simp only [listing_reader_list.l0] at hl; cases hl
  | succ n =>
   simp only [listing_reader_list.l0] at hl
   by_cases c3 : t3 = 0
   ·rw [if_pos c3] at hl
    have c3b : (t3 == 0) = true := beq_iff_eq.mpr c3
    obtain ⟨⟨p0, p1, p2, p3, p4⟩, hp, hl⟩ := Option.bind_eq_some_iff.mp hl
    cases n with
    | zero => simp only [listing_reader_list.j1] at hl; cases hl
    | succ n =>
     simp only [listing_reader_list.j1] at hl
     have HP := Aside0.mk hp
     clear hp c3
     cases hb9 : (p0.toList != ([41] : List UInt8)) with
     | true =>
      rw [hb9, if_pos rfl] at hl
      have hb8 : (p0.toList == ([41] : List UInt8)) = false := by simpa using hb9
      clear hb9
      by_cases c8 : (xs.length : Int) ≥ 8
      ·rw [if_pos c8] at hl
       obtain ⟨⟨q1, q2, q3, q4⟩, hq, hl⟩ := Option.bind_eq_some_iff.mp hl
       obtain ⟨⟨y0, y1, y2, y3, y4⟩, hy, hl⟩ := Option.bind_eq_some_iff.mp hl
       by_cases hlen : xs.length < 17592186044416
       rotate_left
       ·rw [if_neg hlen] at hl
        cases hl
       rw [if_pos hlen] at hl
       have c8b : decide ((8 : Int) ≤ (xs.length : Int)) = true := decide_eq_true c8
       have c8c : decide (8 ≤ xs.length) = true := decide_eq_true (by omega)
       have HQ := Aside0.mk hq
       have HY := Aside0.mk hy
       have HL := Aside0.mk hl
       have HLen := Aside0.mk hlen
       clear hq hy hl c8 hlen
       go_wp2_with fail
       refine (listing_reader_peek.calls g s0_0 t1 t2 t3 t4 p0 p1 p2 p3 p4 w0 _ HT.out.i HT.out.b HP.out).mono ?_
       rintro e w5 ⟨rfl, hi5, hb5, hk5⟩
       have HT5 := Aside0.mk (HT.out.call hi5 hb5 hk5)
       clear hi5 hb5 hk5 hc3
       go_wp2_with fail
       refine (listing_reader_fail.calls g s0_0 p1 p2 p3 p4 6 q1 q2 q3 q4 w0 _ HT5.out.i HT5.out.b HQ.out).mono ?_
       rintro e w7 ⟨rfl, hi7, hb7, hk7⟩
       have HT7 := Aside0.mk (HT5.out.call hi7 hb7 hk7)
       clear hi7 hb7 hk7
       go_wp2_with fail
       refine (listing_reader_slot.calls n g s0_0 q1 q2 q3 q4 y0 y1 y2 y3 y4 w0 _ HT7.out.i HT7.out.b HY.out).mono ?_
       rintro e w6 ⟨rfl, hi6, hb6, hk6⟩
       have HT6 := Aside0.mk (HT7.out.call hi6 hb6 hk6)
       clear hi6 hb6 hk6
       go_wp2_with (first | ((with_reducible refine gate_builtin (b := .append) (xs := #[.tmp 22, .tmp 25]) rfl ?_); at_builtin; refine Kd.R_append (Kd.int .i64) (w0 := w6) w.heap.size rfl (.tmp 22) (.tmp 25) 30 3 (.int .i64 0) 8 rfl Try.underlying30 (by kernel_rfl) rfl (by decide) (by omega) (.slice Av xs.length cv_) xs y0 [.int .i64 y0] (fun _ => True) (fun _ => False) rfl rfl rfl (fun _ hk => hk.elim) (fun k hk => trivial) HT6.out.r (Below.refl _ _) (keep_size HT6.out.k) (by have := HLen.out; omega) ?_; intro v1 w9 hr9 hb9 hg9 hv9; have HT9 := Aside0.mk (HT6.out.app hr9 hg9 WB.out); clear hr9 hb9 hg9 hv9))
       go_step3
       exact ⟨rfl, Handed.intro n (by omega) ⟨_, _, _, _, _, _, ⟨_, _, _, _, _, _, _, _, _, _, _, _, _, _, _, _, _, _, _, _, _, _, _, _, _, _, rfl⟩, HL.out, HT9.out⟩⟩
      ·rw [if_neg c8] at hl
       obtain ⟨⟨y0, y1, y2, y3, y4⟩, hy, hl⟩ := Option.bind_eq_some_iff.mp hl
       by_cases hlen : xs.length < 17592186044416
       rotate_left
       ·rw [if_neg hlen] at hl
        cases hl
       rw [if_pos hlen] at hl
       have c8b : decide ((8 : Int) ≤ (xs.length : Int)) = false := decide_eq_false c8
       have c8c : decide (8 ≤ xs.length) = false := decide_eq_false (by omega)
       have HY := Aside0.mk hy
       have HL := Aside0.mk hl
       have HLen := Aside0.mk hlen
       clear hy hl c8 hlen
       go_wp2_with fail
       refine (listing_reader_peek.calls g s0_0 t1 t2 t3 t4 p0 p1 p2 p3 p4 w0 _ HT.out.i HT.out.b HP.out).mono ?_
       rintro e w5 ⟨rfl, hi5, hb5, hk5⟩
       have HT5 := Aside0.mk (HT.out.call hi5 hb5 hk5)
       clear hi5 hb5 hk5 hc3
       go_wp2_with fail
       refine (listing_reader_slot.calls n g s0_0 p1 p2 p3 p4 y0 y1 y2 y3 y4 w0 _ HT5.out.i HT5.out.b HY.out).mono ?_
       rintro e w6 ⟨rfl, hi6, hb6, hk6⟩
       have HT6 := Aside0.mk (HT5.out.call hi6 hb6 hk6)
       clear hi6 hb6 hk6
       go_wp2_with (first | ((with_reducible refine gate_builtin (b := .append) (xs := #[.tmp 22, .tmp 25]) rfl ?_); at_builtin; refine Kd.R_append (Kd.int .i64) (w0 := w6) w.heap.size rfl (.tmp 22) (.tmp 25) 30 3 (.int .i64 0) 8 rfl Try.underlying30 (by kernel_rfl) rfl (by decide) (by omega) (.slice Av xs.length cv_) xs y0 [.int .i64 y0] (fun _ => True) (fun _ => False) rfl rfl rfl (fun _ hk => hk.elim) (fun k hk => trivial) HT6.out.r (Below.refl _ _) (keep_size HT6.out.k) (by have := HLen.out; omega) ?_; intro v1 w9 hr9 hb9 hg9 hv9; have HT9 := Aside0.mk (HT6.out.app hr9 hg9 WB.out); clear hr9 hb9 hg9 hv9))
       go_step3
       exact ⟨rfl, Handed.intro n (by omega) ⟨_, _, _, _, _, _, ⟨_, _, _, _, _, _, _, _, _, _, _, _, _, _, _, _, _, _, _, _, _, _, _, _, _, _, rfl⟩, HL.out, HT9.out⟩⟩
     | false =>
      rw [hb9, if_neg (by simp)] at hl
      have hb8 : (p0.toList == ([41] : List UInt8)) = true := by simpa using hb9
      clear hb9
      obtain ⟨⟨q1, q2, q3, q4⟩, hq, hl⟩ := Option.bind_eq_some_iff.mp hl
      have HQ := Aside0.mk hq
      simp only [Option.some.injEq, Prod.mk.injEq] at hl
      obtain ⟨rfl, rfl, rfl, rfl, rfl⟩ := hl
      clear hq
      go_wp2_with fail
      refine (listing_reader_peek.calls g s0_0 t1 t2 t3 t4 p0 p1 p2 p3 p4 w0 _ HT.out.i HT.out.b HP.out).mono ?_
      rintro e w5 ⟨rfl, hi5, hb5, hk5⟩
      have HT5 := Aside0.mk (HT.out.call hi5 hb5 hk5)
      clear hi5 hb5 hk5 hc3
      go_wp2_with fail
      refine (listing_reader_want.calls g s0_0 p1 p2 p3 p4 (⟨#[41]⟩ : ByteArray) q1 q2 q3 q4 w0 _ HT5.out.i HT5.out.b HQ.out).mono ?_
      rintro e w6 ⟨rfl, hi6, hb6, hk6⟩
      have HT6 := Aside0.mk (HT5.out.call hi6 hb6 hk6)
      clear hi6 hb6 hk6
      go_wp2
      try simp only [Exit.jump]
      go_ret
      exact ⟨_, rfl, HT6.out.r, HT6.out.i, HT6.out.b, HT6.out.k⟩
   ·rw [if_neg c3] at hl
    have c3b : (t3 == 0) = false := beq_eq_false_iff_ne.mpr c3
    cases n with
    | zero => simp only [listing_reader_list.j1] at hl; cases hl
    | succ n =>
     simp only [listing_reader_list.j1] at hl
     rw [if_neg (by simp)] at hl
     obtain ⟨⟨q1, q2, q3, q4⟩, hq, hl⟩ := Option.bind_eq_some_iff.mp hl
     have HQ := Aside0.mk hq
     simp only [Option.some.injEq, Prod.mk.injEq] at hl
     obtain ⟨rfl, rfl, rfl, rfl, rfl⟩ := hl
     clear hq c3
     go_wp2_with fail
     refine (listing_reader_want.calls g s0_0 t1 t2 t3 t4 (⟨#[41]⟩ : ByteArray) q1 q2 q3 q4 w0 _ HT.out.i HT.out.b HQ.out).mono ?_
     rintro e w6 ⟨rfl, hi6, hb6, hk6⟩
     have HT6 := Aside0.mk (HT.out.call hi6 hb6 hk6)
     clear hi6 hb6 hk6
     go_wp2
     try simp only [Exit.jump]
     go_ret
     exact ⟨_, rfl, HT6.out.r, HT6.out.i, HT6.out.b, HT6.out.k⟩
end Go.Proofs.Ytkgjbdbhpohkiaa.PLi
end
