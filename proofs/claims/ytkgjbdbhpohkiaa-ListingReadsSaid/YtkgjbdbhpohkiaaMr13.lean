import Derived.Test.YtkgjbdbhpohkiaaMr2
import Derived.Test.YtkgjbdbhpohkiaaMr9
import Derived.Test.YtkgjbdbhpohkiaaMr11
import Derived.Test.YtkgjbdbhpohkiaaMr5
import Derived.Test.YtkgjbdbhpohkiaaMr10
import Derived.Test.YtkgjbdbhpohkiaaMr12
-- from YtkgjbdbhpohkiaaPLix14
section
namespace Go.Proofs.Ytkgjbdbhpohkiaa.PLi
open Go.RowKit Go.Proofs.YtkgjbdbhpohkiaaW.PrintWords Go.Proofs.YtkgjbdbhpohkiaaW.PrintLast Go.Proofs.YtkgjbdbhpohkiaaW.PrintMore Go.Proofs.Ytkgjbdbhpohkiaa.Zip
attribute [local go_sem] max2_int min2_int max_two min_two max_three min_three max_four min_four   -- for this text's walks alone
set_option linter.unusedVariables false
set_option linter.unusedSimpArgs false
def listing_find.l0 : Nat → ByteArray → Int → Option (Int)
 | 0, _, _ => none
 | k + 1, x0, x3 => if x3 ≤ 30 then (if x0.toList = ([] : List UInt8) then (listing_find.l0 k x0 (wrap64 (x3 + 1))) else ((listing_Word.f x3).bind fun t175 => (if t175.toList = x0.toList then (some x3) else (listing_find.l0 k x0 (wrap64 (x3 + 1)))))) else (some 0)
def listing_find.f (k : Nat) (a0 : ByteArray) : Option (Int) := listing_find.l0 k a0 1
set_option maxHeartbeats 8000000 in
set_option maxRecDepth 100000 in
theorem listing_find.calls (k : Nat) (a0 : ByteArray) (r : Int) (w : World) (h : listing_find.f k a0 = some r) :
  Calls Try.prog 81 #[.string a0] w fun e w' => e = .returned (.int .i64 r) ∧ Below w.heap.size w w' := by
 have HB := Aside0.mk (Below.refl w.heap.size w)
 have H : (listing_find.l0 k a0 1) = some r := h
 clear h
 have H' := Aside0.mk H
 clear H
 go_enter Try.func81, Try.ntmps81
 go_wp2
 go_loopg [3] k (fun kq v3 w' => ∃ (x3_1 : Int), v3 = .int .i64 x3_1 ∧ Aside0 (listing_find.l0 kq a0 x3_1 = some r) ∧ Aside0 (kq ≤ k) ∧ Aside0 (Below w.heap.size w w'))
 case atStart => exact ⟨(1), (by first | rfl | (simp; done) | (simp [*]; done)), H', ⟨Nat.le_refl _⟩, ⟨zB HB.out⟩⟩
 case round =>
  clear H'
  obtain ⟨x3_1, rfl, HA, HK1, HB⟩ := hrel
  cases gk with
  | zero => exact absurd HA.out (by simp [listing_find.l0])
  | succ k1 =>
   have H := HA.out
   clear HA
   simp only [listing_find.l0] at H
   by_cases c2 : x3_1 ≤ 30
   ·rw [if_pos c2] at H
    have c2b0 : decide (x3_1 ≤ 30) = true := decide_eq_true c2
    clear c2
    by_cases c3 : a0.toList = ([] : List UInt8)
    ·rw [if_pos c3] at H
     have c3b0 : (a0.toList == ([] : List UInt8)) = true := beq_iff_eq.mpr c3
     have c3b1 : (a0.toList != ([] : List UInt8)) = false := bne_eq_false_iff_eq.mpr c3
     clear c3
     have H' := Aside0.mk H
     clear H
     go_wp2
     go_roundg k1
     case measure => have := HK1.out; omega
     case rel => exact ⟨(wrap64 (x3_1 + 1)), (by first | rfl | (simp; done) | (simp [*]; done)), H', ⟨by have := HK1.out; omega⟩, ⟨zB HB.out⟩⟩
    ·rw [if_neg c3] at H
     have c3b0 : (a0.toList == ([] : List UInt8)) = false := beq_eq_false_iff_ne.mpr c3
     have c3b1 : (a0.toList != ([] : List UInt8)) = true := bne_iff_ne.mpr c3
     replace H := Option.bind_eq_some_iff.mp H
     obtain ⟨t175, A40, H⟩ := H
     replace H : (if t175.toList = a0.toList then (some x3_1) else (listing_find.l0 k1 a0 (wrap64 (x3_1 + 1)))) = some r := H
     have A4 := Aside0.mk A40
     clear A40
     by_cases c5 : t175.toList = a0.toList
     ·rw [if_pos c5] at H
      have c5b0 : (t175.toList == a0.toList) = true := beq_iff_eq.mpr c5
      have c5b1 : (t175.toList != a0.toList) = false := bne_eq_false_iff_eq.mpr c5
      clear c5
      obtain rfl := Option.some.inj H
      go_wp2_with (first | (go_at_call 10; (with_reducible refine (listing_Word.calls x3_1 t175 _ A4.out).mono ?_); rintro e w6 ⟨rfl, hb⟩; have n0_ := Aside0.mk (below_step (zB HB.out) hb); clear HB; have HB := n0_; clear n0_; (try clear hb); (try clear hb2); (try clear hk); (try clear hi)))
      go_ret
      exact ⟨zF, zB HB.out⟩
     ·rw [if_neg c5] at H
      have c5b0 : (t175.toList == a0.toList) = false := beq_eq_false_iff_ne.mpr c5
      have c5b1 : (t175.toList != a0.toList) = true := bne_iff_ne.mpr c5
      have H' := Aside0.mk H
      clear H
      go_wp2_with (first | (go_at_call 10; (with_reducible refine (listing_Word.calls x3_1 t175 _ A4.out).mono ?_); rintro e w7 ⟨rfl, hb⟩; have n0_ := Aside0.mk (below_step (zB HB.out) hb); clear HB; have HB := n0_; clear n0_; (try clear hb); (try clear hb2); (try clear hk); (try clear hi)))
      go_roundg k1
      case measure => have := HK1.out; omega
      case rel => exact ⟨(wrap64 (x3_1 + 1)), (by first | rfl | (simp; done) | (simp [*]; done)), H', ⟨by have := HK1.out; omega⟩, ⟨zB HB.out⟩⟩
   ·rw [if_neg c2] at H
    have c2b0 : decide (x3_1 ≤ 30) = false := decide_eq_false c2
    clear c2
    obtain rfl := Option.some.inj H
    go_wp2
    go_ret
    exact ⟨zF, zB HB.out⟩
def listing_reader_number.f (k : Nat) (s0_0 : List (S84)) (s0_1 : Int) (s0_2 : Int) (s0_3 : Int) (s0_4 : Int) : Option (Int × Int × Int × Int × Int) := (listing_reader_peek.f s0_0 s0_1 s0_2 s0_3 s0_4).bind fun bt176 => ((digits_Parse.f k bt176.1).bind fun bt181 => (if bt181.2 = 0 then (some (bt181.1, wrap64 (bt176.2.1 + 1), bt176.2.2.1, bt176.2.2.2.1, bt176.2.2.2.2)) else ((listing_reader_fail.f s0_0 bt176.2.1 bt176.2.2.1 bt176.2.2.2.1 bt176.2.2.2.2 bt181.2).bind fun bt183 => (some (bt181.1, wrap64 (bt183.1 + 1), bt183.2.1, bt183.2.2.1, bt183.2.2.2)))))
set_option maxHeartbeats 8000000 in
set_option maxRecDepth 100000 in
theorem listing_reader_number.calls (k : Nat) (g : Nat) (s0_0 : List (S84)) (s0_1 : Int) (s0_2 : Int) (s0_3 : Int) (s0_4 : Int) (r1 : Int) (r2 : Int) (r3 : Int) (r4 : Int) (r5 : Int) (w0 w : World) (hI : IsS67 w0 w g s0_0 s0_1 s0_2 s0_3 s0_4) (hB : Below w0.heap.size w0 w) (h : listing_reader_number.f k s0_0 s0_1 s0_2 s0_3 s0_4 = some (r1, r2, r3, r4, r5)) :
  Calls Try.prog 83 #[.pointer (some ⟨g, 0, none⟩)] w fun e w' => e = .returned (.int .i64 r1) ∧ IsS67 w0 w' g s0_0 r2 r3 r4 r5 ∧ Below w0.heap.size w0 w' ∧ KeepBut w w' g none := by
 have HI0 := Aside0.mk hI
 have HK := Aside0.mk (KeepBut.refl w g none)
 have HL := Aside0.mk hB.size
 clear hI
 have HW0 := Aside0.mk hB.size
 have HB := Aside0.mk hB
 clear hB
 have H : ((listing_reader_peek.f s0_0 s0_1 s0_2 s0_3 s0_4).bind fun bt176 => ((digits_Parse.f k bt176.1).bind fun bt181 => (if bt181.2 = 0 then (some (bt181.1, wrap64 (bt176.2.1 + 1), bt176.2.2.1, bt176.2.2.2.1, bt176.2.2.2.2)) else ((listing_reader_fail.f s0_0 bt176.2.1 bt176.2.2.1 bt176.2.2.2.1 bt176.2.2.2.2 bt181.2).bind fun bt183 => (some (bt181.1, wrap64 (bt183.1 + 1), bt183.2.1, bt183.2.2.1, bt183.2.2.2)))))) = some (r1, r2, r3, r4, r5) := h
 clear h
 replace H := Option.bind_eq_some_iff.mp H
 obtain ⟨⟨t176, t177, t178, t179, t180⟩, A20, H⟩ := H
 replace H : ((digits_Parse.f k t176).bind fun bt181 => (if bt181.2 = 0 then (some (bt181.1, wrap64 (t177 + 1), t178, t179, t180)) else ((listing_reader_fail.f s0_0 t177 t178 t179 t180 bt181.2).bind fun bt183 => (some (bt181.1, wrap64 (bt183.1 + 1), bt183.2.1, bt183.2.2.1, bt183.2.2.2))))) = some (r1, r2, r3, r4, r5) := H
 have A2 := Aside0.mk A20
 clear A20
 replace H := Option.bind_eq_some_iff.mp H
 obtain ⟨⟨t181, t182⟩, A30, H⟩ := H
 replace H : (if t182 = 0 then (some (t181, wrap64 (t177 + 1), t178, t179, t180)) else ((listing_reader_fail.f s0_0 t177 t178 t179 t180 t182).bind fun bt183 => (some (t181, wrap64 (bt183.1 + 1), bt183.2.1, bt183.2.2.1, bt183.2.2.2)))) = some (r1, r2, r3, r4, r5) := H
 have A3 := Aside0.mk A30
 clear A30
 by_cases c4 : t182 = 0
 ·rw [if_pos c4] at H
  have c4b0 : (t182 == 0) = true := beq_iff_eq.mpr c4
  have c4b1 : (t182 != 0) = false := bne_eq_false_iff_eq.mpr c4
  clear c4
  simp only [Option.some.injEq, Prod.mk.injEq] at H
  obtain ⟨rfl, rfl, rfl, rfl, rfl⟩ := H
  go_enter Try.func83, Try.ntmps83
  go_wp2_with (first | ((with_reducible refine gate_callee (f := 57) rfl ?_); refine goesL_ (some 7) rfl rfl Try.func57 (by kernel_rfl) rfl #[.pointer (some ⟨g, 0, none⟩)] rfl zA ?_; (with_reducible refine (listing_reader_peek.calls g s0_0 s0_1 s0_2 s0_3 s0_4 t176 t177 t178 t179 t180 w0 _ ?side1 ?side2 A2.out).mono ?_); (case side1 => repeat (first | (with_reducible first | exact HI0.out | apply IsS67.alloc | apply IsS67.drewN | apply IsS67.drew | apply IsS67.set_1 | apply IsS67.set_2 | apply IsS67.set_3 | apply IsS67.set_4) | exact HI0.out)); (case side2 => repeat (first | (with_reducible first | exact HB.out | apply below_alloc | apply pw_below_drewN | apply below_drew1 | refine below_set ?_ (IsS67.ge HI0.out)) | exact HB.out)); rintro e w5 ⟨rfl, hi, hb, hk⟩; refine ⟨_, rfl, ?_⟩; have n0_ := Aside0.mk (KeepBut.trans (by repeat (first | (with_reducible first | exact HK.out | apply KeepBut.set_ | apply keep_drewN | apply keep_drew | apply keep_alloc) | exact HK.out)) hk (.inl rfl)); have n1_ := Aside0.mk (hb); have n2_ := Aside0.mk (hi); clear HK; clear HB; clear HI0; have HK := n0_; have HB := n1_; have HI0 := n2_; clear n0_ n1_ n2_; (try clear hb); (try clear hb2); (try clear hk); (try clear hi)) | ((with_reducible refine gate_callee (f := 80) rfl ?_); refine goesL_ (some 8) rfl rfl Try.func80 (by kernel_rfl) rfl #[.string t176] rfl zA ?_; (with_reducible refine (digits_Parse.calls k t176 t181 t182 _ A3.out).mono ?_); rintro e w' ⟨rfl, ⟨nd, rfl⟩⟩; refine ⟨_, rfl, ?_⟩; (try (rw [drewN_self w5]; generalize hq_ : World.drewN w5 _ = w5; have n0_ : Aside0 (IsS67 w0 w5 g s0_0 t177 t178 t179 t180) := ⟨by rw [← hq_]; exact (by repeat (first | (with_reducible first | exact HI0.out | apply IsS67.alloc | apply IsS67.drewN | apply IsS67.drew | apply IsS67.set_1 | apply IsS67.set_2 | apply IsS67.set_3 | apply IsS67.set_4) | exact HI0.out))⟩; have n1_ : Aside0 (KeepBut w w5 g none) := ⟨by rw [← hq_]; exact (by repeat (first | (with_reducible first | exact HK.out | apply KeepBut.set_ | apply keep_drewN | apply keep_drew | apply keep_alloc) | exact HK.out))⟩; have n2_ : Aside0 (Below w0.heap.size w0 w5) := ⟨by rw [← hq_]; exact (zC HB.out (IsS67.ge HI0.out))⟩; clear HI0 HK HB hq_; have HI0 := n0_; have HK := n1_; have HB := n2_; clear n0_ n1_ n2_)); obtain ⟨ASz6_0, cSz6_0, HGz6, hgz6, HSz6_0⟩ := HI0.out; have hcz6_0 := cellS67_0 HGz6; have hcz6_1 := cellS67_1 HGz6; have hcz6_2 := cellS67_2 HGz6; have hcz6_3 := cellS67_3 HGz6; have hcz6_4 := cellS67_4 HGz6; have hfz6_1 := blk_frozen HGz6 1; have hfz6_2 := blk_frozen HGz6 2; have hfz6_3 := blk_frozen HGz6 3; have hfz6_4 := blk_frozen HGz6 4; clear HGz6 hgz6))
  go_ret
  exact ⟨zF, by repeat (first | (with_reducible first | exact HI0.out | apply IsS67.alloc | apply IsS67.drewN | apply IsS67.drew | apply IsS67.set_1 | apply IsS67.set_2 | apply IsS67.set_3 | apply IsS67.set_4) | exact HI0.out), zC HB.out (IsS67.ge HI0.out), by repeat (first | (with_reducible first | exact HK.out | apply KeepBut.set_ | apply keep_drewN | apply keep_drew | apply keep_alloc) | exact HK.out)⟩
 ·rw [if_neg c4] at H
  have c4b0 : (t182 == 0) = false := beq_eq_false_iff_ne.mpr c4
  have c4b1 : (t182 != 0) = true := bne_iff_ne.mpr c4
  replace H := Option.bind_eq_some_iff.mp H
  obtain ⟨⟨t183, t184, t185, t186⟩, A70, H⟩ := H
  replace H : (some (t181, wrap64 (t183 + 1), t184, t185, t186)) = some (r1, r2, r3, r4, r5) := H
  have A7 := Aside0.mk A70
  clear A70
  simp only [Option.some.injEq, Prod.mk.injEq] at H
  obtain ⟨rfl, rfl, rfl, rfl, rfl⟩ := H
  go_enter Try.func83, Try.ntmps83
  go_wp2_with (first | ((with_reducible refine gate_callee (f := 57) rfl ?_); refine goesL_ (some 7) rfl rfl Try.func57 (by kernel_rfl) rfl #[.pointer (some ⟨g, 0, none⟩)] rfl zA ?_; (with_reducible refine (listing_reader_peek.calls g s0_0 s0_1 s0_2 s0_3 s0_4 t176 t177 t178 t179 t180 w0 _ ?side1 ?side2 A2.out).mono ?_); (case side1 => repeat (first | (with_reducible first | exact HI0.out | apply IsS67.alloc | apply IsS67.drewN | apply IsS67.drew | apply IsS67.set_1 | apply IsS67.set_2 | apply IsS67.set_3 | apply IsS67.set_4) | exact HI0.out)); (case side2 => repeat (first | (with_reducible first | exact HB.out | apply below_alloc | apply pw_below_drewN | apply below_drew1 | refine below_set ?_ (IsS67.ge HI0.out)) | exact HB.out)); rintro e w8 ⟨rfl, hi, hb, hk⟩; refine ⟨_, rfl, ?_⟩; have n0_ := Aside0.mk (KeepBut.trans (by repeat (first | (with_reducible first | exact HK.out | apply KeepBut.set_ | apply keep_drewN | apply keep_drew | apply keep_alloc) | exact HK.out)) hk (.inl rfl)); have n1_ := Aside0.mk (hb); have n2_ := Aside0.mk (hi); clear HK; clear HB; clear HI0; have HK := n0_; have HB := n1_; have HI0 := n2_; clear n0_ n1_ n2_; (try clear hb); (try clear hb2); (try clear hk); (try clear hi)) | ((with_reducible refine gate_callee (f := 80) rfl ?_); refine goesL_ (some 8) rfl rfl Try.func80 (by kernel_rfl) rfl #[.string t176] rfl zA ?_; (with_reducible refine (digits_Parse.calls k t176 t181 t182 _ A3.out).mono ?_); rintro e w' ⟨rfl, ⟨nd, rfl⟩⟩; refine ⟨_, rfl, ?_⟩; (try (rw [drewN_self w8]; generalize hq_ : World.drewN w8 _ = w8; have n0_ : Aside0 (IsS67 w0 w8 g s0_0 t177 t178 t179 t180) := ⟨by rw [← hq_]; exact (by repeat (first | (with_reducible first | exact HI0.out | apply IsS67.alloc | apply IsS67.drewN | apply IsS67.drew | apply IsS67.set_1 | apply IsS67.set_2 | apply IsS67.set_3 | apply IsS67.set_4) | exact HI0.out))⟩; have n1_ : Aside0 (KeepBut w w8 g none) := ⟨by rw [← hq_]; exact (by repeat (first | (with_reducible first | exact HK.out | apply KeepBut.set_ | apply keep_drewN | apply keep_drew | apply keep_alloc) | exact HK.out))⟩; have n2_ : Aside0 (Below w0.heap.size w0 w8) := ⟨by rw [← hq_]; exact (zC HB.out (IsS67.ge HI0.out))⟩; clear HI0 HK HB hq_; have HI0 := n0_; have HK := n1_; have HB := n2_; clear n0_ n1_ n2_))) | ((with_reducible refine gate_callee (f := 59) rfl ?_); refine goesL_ (some 15) rfl rfl Try.func59 (by kernel_rfl) rfl #[.pointer (some ⟨g, 0, none⟩), .int .i64 t182] rfl zA ?_; (with_reducible refine (listing_reader_fail.calls g s0_0 t177 t178 t179 t180 t182 t183 t184 t185 t186 w0 _ ?side1 ?side2 A7.out).mono ?_); (case side1 => repeat (first | (with_reducible first | exact HI0.out | apply IsS67.alloc | apply IsS67.drewN | apply IsS67.drew | apply IsS67.set_1 | apply IsS67.set_2 | apply IsS67.set_3 | apply IsS67.set_4) | exact HI0.out)); (case side2 => repeat (first | (with_reducible first | exact HB.out | apply below_alloc | apply pw_below_drewN | apply below_drew1 | refine below_set ?_ (IsS67.ge HI0.out)) | exact HB.out)); rintro e w9 ⟨rfl, hi, hb, hk⟩; refine ⟨_, rfl, ?_⟩; have n0_ := Aside0.mk (KeepBut.trans (by repeat (first | (with_reducible first | exact HK.out | apply KeepBut.set_ | apply keep_drewN | apply keep_drew | apply keep_alloc) | exact HK.out)) hk (.inl rfl)); have n1_ := Aside0.mk (hb); have n2_ := Aside0.mk (hi); clear HK; clear HB; clear HI0; have HK := n0_; have HB := n1_; have HI0 := n2_; clear n0_ n1_ n2_; (try clear hb); (try clear hb2); (try clear hk); (try clear hi); obtain ⟨ASz10_0, cSz10_0, HGz10, hgz10, HSz10_0⟩ := HI0.out; have hcz10_0 := cellS67_0 HGz10; have hcz10_1 := cellS67_1 HGz10; have hcz10_2 := cellS67_2 HGz10; have hcz10_3 := cellS67_3 HGz10; have hcz10_4 := cellS67_4 HGz10; have hfz10_1 := blk_frozen HGz10 1; have hfz10_2 := blk_frozen HGz10 2; have hfz10_3 := blk_frozen HGz10 3; have hfz10_4 := blk_frozen HGz10 4; clear HGz10 hgz10))
  go_ret
  exact ⟨zF, by repeat (first | (with_reducible first | exact HI0.out | apply IsS67.alloc | apply IsS67.drewN | apply IsS67.drew | apply IsS67.set_1 | apply IsS67.set_2 | apply IsS67.set_3 | apply IsS67.set_4) | exact HI0.out), zC HB.out (IsS67.ge HI0.out), by repeat (first | (with_reducible first | exact HK.out | apply KeepBut.set_ | apply keep_drewN | apply keep_drew | apply keep_alloc) | exact HK.out)⟩
end Go.Proofs.Ytkgjbdbhpohkiaa.PLi
end
-- from YtkgjbdbhpohkiaaHLRInst
section
namespace Go.Proofs.Ytkgjbdbhpohkiaa.PLi
open Go.RowKit Go.Proofs.YtkgjbdbhpohkiaaW.PrintWords Go.Proofs.YtkgjbdbhpohkiaaW.PrintLast Go.Proofs.YtkgjbdbhpohkiaaW.PrintMore Go.Proofs.Ytkgjbdbhpohkiaa.Str
set_option linter.unusedVariables false
set_option linter.unusedSimpArgs false
def RSt : Type := S37 × Int × Int × Int × Int
def riStep (k : Nat) (tl : List (S84)) (c : Nat) : RSt → Option RSt
 | (x, s1, s2, s3, s4) => if c = 100 then ((listing_reader_slot.f k tl s1 s2 s3 s4).bind fun y0 => some (⟨x.f0, y0.1, x.f2, x.f3, x.f4, x.f5, ⟨x.f6.f0, x.f6.f1⟩⟩, y0.2.1, y0.2.2.1, y0.2.2.2.1, y0.2.2.2.2)) else if c = 97 then ((listing_reader_slot.f k tl s1 s2 s3 s4).bind fun y0 => some (⟨x.f0, x.f1, y0.1, x.f3, x.f4, x.f5, ⟨x.f6.f0, x.f6.f1⟩⟩, y0.2.1, y0.2.2.1, y0.2.2.2.1, y0.2.2.2.2)) else if c = 98 then ((listing_reader_slot.f k tl s1 s2 s3 s4).bind fun y0 => some (⟨x.f0, x.f1, x.f2, y0.1, x.f4, x.f5, ⟨x.f6.f0, x.f6.f1⟩⟩, y0.2.1, y0.2.2.1, y0.2.2.2.1, y0.2.2.2.2)) else if c = 102 then ((listing_reader_index.f k tl s1 s2 s3 s4 102 31 12).bind fun y0 => some (⟨x.f0, x.f1, y0.1, x.f3, x.f4, x.f5, ⟨x.f6.f0, x.f6.f1⟩⟩, y0.2.1, y0.2.2.1, y0.2.2.2.1, y0.2.2.2.2)) else if c = 110 then ((listing_reader_number.f k tl s1 s2 s3 s4).bind fun y0 => some (⟨x.f0, x.f1, x.f2, x.f3, y0.1, x.f5, ⟨x.f6.f0, x.f6.f1⟩⟩, y0.2.1, y0.2.2.1, y0.2.2.2.1, y0.2.2.2.2)) else if c = 108 then ((listing_reader_list.f k tl s1 s2 s3 s4).bind fun y0 => some (⟨x.f0, x.f1, x.f2, x.f3, x.f4, y0.1, ⟨x.f6.f0, x.f6.f1⟩⟩, y0.2.1, y0.2.2.1, y0.2.2.2.1, y0.2.2.2.2)) else if c = 111 then ((listing_reader_index.f k tl s1 s2 s3 s4 64 65535 7).bind fun y0 => some (⟨x.f0, x.f1, x.f2, x.f3, x.f4, x.f5, ⟨y0.1, x.f6.f1⟩⟩, y0.2.1, y0.2.2.1, y0.2.2.2.1, y0.2.2.2.2)) else if c = 116 then ((listing_reader_index.f k tl s1 s2 s3 s4 64 65535 7).bind fun y0 => some (⟨x.f0, x.f1, x.f2, x.f3, x.f4, x.f5, ⟨x.f6.f0, y0.1⟩⟩, y0.2.1, y0.2.2.1, y0.2.2.2.1, y0.2.2.2.2)) else some (x, s1, s2, s3, s4)
def riSteps (k : Nat) (tl : List (S84)) : List UInt8 → RSt → Option RSt
 | [], st => some st
 | c :: cs, st => (riStep k tl c.toNat st).bind fun st2 => riSteps k tl cs st2
def riOut : RSt → Int × Int × Int × Int × Int × List Int × Int × Int × Int × Int × Int × Int
 | (x, s1, s2, s3, s4) => (x.f0, x.f1, x.f2, x.f3, x.f4, x.f5, x.f6.f0, x.f6.f1, s1, s2, s3, s4)
def listing_reader_inst.f (k : Nat) (tl : List (S84)) (s1 s2 s3 s4 : Int) : Option (Int × Int × Int × Int × Int × List Int × Int × Int × Int × Int × Int × Int) :=
 (listing_reader_peek.f tl s1 s2 s3 s4).bind fun p => (listing_find.f k p.1).bind fun op => (if op = 0 then listing_reader_fail.f tl p.2.1 p.2.2.1 p.2.2.2.1 p.2.2.2.2 2 else some (p.2.1, p.2.2.1, p.2.2.2.1, p.2.2.2.2)).bind fun q =>
  (listing_parts.f k op).bind fun ps => if asciiB ps = true ∧ ps.size ≤ 8 then (riSteps k tl ps.data.toList (⟨op, -1, -1, -1, 0, [], ⟨0, 0⟩⟩, wrap64 (q.1 + 1), q.2.1, q.2.2.1, q.2.2.2)).bind fun st => some (riOut st) else none
def instObj (x : S37) (v : Value) : Array Value := #[.int .i64 x.f0, .int .i64 x.f1, .int .i64 x.f2, .int .i64 x.f3, .int .i64 x.f4, v, .int .i64 x.f6.f0, .int .i64 x.f6.f1]
structure RIAt (g b2 b3 : Nat) (z : Array Value) (tl : List (S84)) (x : S37) (v : Value) (s1 s2 s3 s4 : Int) (w0 w w' : World) : Prop where
 i : IsS67 w0 w' g tl s1 s2 s3 s4
 b : Below w0.heap.size w0 w'
 k : KeepBut w w' g none
 wb : w0.heap.size ≤ w.heap.size
 gl : g < w.heap.size
 ge : w.heap.size ≤ b2
 lt : b2 < b3
 zero : w'.heap[b2]? = some (.cells z 37 (0, 0))
 box : w'.heap[b3]? = some (.cells (instObj x v) 37 (0, 0))
 row : Kd.R (Kd.int .i64) 3 w' w.heap.size (fun _ => True) v x.f5
section
variable {g b2 b3 : Nat} {z : Array Value} {tl : List (S84)} {x : S37} {v : Value} {s1 s2 s3 s4 r1 r2 r3 r4 : Int} {w0 w w1 w2 : World}
theorem RIAt.call (h : RIAt g b2 b3 z tl x v s1 s2 s3 s4 w0 w w1) (hi : IsS67 w0 w2 g tl r1 r2 r3 r4) (hb : Below w0.heap.size w0 w2) (hk : KeepBut w1 w2 g none) : RIAt g b2 b3 z tl x v r1 r2 r3 r4 w0 w w2 := by
 obtain ⟨A0, c0, hG, -, -⟩ := h.i
 have h1 := h.gl
 have h2 := h.ge
 have h3 := h.lt
 exact ⟨hi, hb, h.k.trans hk (.inl rfl), h.wb, h.gl, h.ge, h.lt, hk.blk h.zero (by omega) (by simp), hk.blk h.box (by omega) (by simp), row_keep h.row hG (by decide) hk⟩
theorem RIAt.below (h : RIAt g b2 b3 z tl x v s1 s2 s3 s4 w0 w w1) (hb : Below w1.heap.size w1 w2) : RIAt g b2 b3 z tl x v s1 s2 s3 s4 w0 w w2 :=
 ⟨h.i.below hb, below_step h.b hb, h.k.trans (KeepBut.of_below hb g none) (.inl rfl), h.wb, h.gl, h.ge, h.lt, blk_below h.zero hb, blk_below h.box hb, Kd.R_below h.row hb⟩
theorem RIAt.put (h : RIAt g b2 b3 z tl x v s1 s2 s3 s4 w0 w w1) (x2 : S37) (j : Nat) (u : Value) (hc : (instObj x v).setIfInBounds j u = instObj x2 v) (h5 : x2.f5 = x.f5) : RIAt g b2 b3 z tl x2 v s1 s2 s3 s4 w0 w (w1.setCell ⟨b3, j, none⟩ u) := by
 have h1 := h.gl
 have h2 := h.ge
 have h3 := h.lt
 have h4 := h.wb
 exact ⟨h.i.far (by show g ≠ b3; omega) u, below_set h.b (by show _ ≤ b3; omega), keep_far h.k (by show _ ≤ b3; omega) u, h.wb, h.gl, h.ge, h.lt, (Below.heap_setCell w1 ⟨b3, j, none⟩ u _ (by show b2 ≠ b3; omega)).trans h.zero, blk_put h.box j u hc,
  by rw [h5]; exact Kd.R_mono (Kd.R_far (p := ⟨b3, j, none⟩) (Kd.R_types h.row h.box (by decide)) (fun _ hk => hk.2) u) (fun _ _ => trivial)⟩
theorem RIAt.putL (h : RIAt g b2 b3 z tl x v s1 s2 s3 s4 w0 w w1) (l : List Int) (u : Value) (hu : Kd.R (Kd.int .i64) 3 w1 w.heap.size (fun _ => True) u l) : RIAt g b2 b3 z tl { x with f5 := l } u s1 s2 s3 s4 w0 w (w1.setCell ⟨b3, 5, none⟩ u) := by
 have h1 := h.gl
 have h2 := h.ge
 have h3 := h.lt
 have h4 := h.wb
 exact ⟨h.i.far (by show g ≠ b3; omega) u, below_set h.b (by show _ ≤ b3; omega), keep_far h.k (by show _ ≤ b3; omega) u, h.wb, h.gl, h.ge, h.lt, (Below.heap_setCell w1 ⟨b3, 5, none⟩ u _ (by show b2 ≠ b3; omega)).trans h.zero, blk_put h.box 5 u rfl,
  Kd.R_mono (Kd.R_far (p := ⟨b3, 5, none⟩) (Kd.R_types hu h.box (by decide)) (fun _ hk => hk.2) u) (fun _ _ => trivial)⟩
theorem RIAt.setz (h : RIAt g b2 b3 z tl x v s1 s2 s3 s4 w0 w w1) (j : Nat) (u : Value) : RIAt g b2 b3 (z.setIfInBounds j u) tl x v s1 s2 s3 s4 w0 w (w1.setCell ⟨b2, j, none⟩ u) := by
 have h1 := h.gl
 have h2 := h.ge
 have h3 := h.lt
 have h4 := h.wb
 exact ⟨h.i.far (by show g ≠ b2; omega) u, below_set h.b (by show _ ≤ b2; omega), keep_far h.k (by show _ ≤ b2; omega) u, h.wb, h.gl, h.ge, h.lt, blk_put h.zero j u rfl, (Below.heap_setCell w1 ⟨b2, j, none⟩ u _ (by show b3 ≠ b2; omega)).trans h.box,
  Kd.R_mono (Kd.R_far (p := ⟨b2, j, none⟩) (Kd.R_types h.row h.zero (by decide)) (fun _ hk => hk.2) u) (fun _ _ => trivial)⟩
theorem RIAt.iter (h : RIAt g b2 b3 z tl x v s1 s2 s3 s4 w0 w w1) {bi : Nat} {q : ByteArray} {pos : Nat} (hbi : b3 < bi) (hit : w1.heap[bi]? = some (.stringIter q pos)) (p2 : Nat) : RIAt g b2 b3 z tl x v s1 s2 s3 s4 w0 w (w1.iterAt bi q p2) := by
 have h1 := h.gl
 have h2 := h.ge
 have h3 := h.lt
 have h4 := h.wb
 have hr := Kd.R_mono (Kd.R_bound h.row) (ok' := fun k => k ≠ bi) (fun k hk e => by
  obtain ⟨_, _, _, q, _, cells, hc⟩ := hk
  rw [e, hit] at hc
  cases hc)
 exact ⟨h.i.grown (row := some bi) ⟨rfl, rfl, rfl, by rw [Lib.iterAt_size]; exact Nat.le_refl _, fun k _ hk => Lib.iterAt_other _ _ _ _ _ (fun e => hk (by rw [e]))⟩ (by intro e; injection e with e; omega), Lib.below_iterAt h.b (by omega) _ _,
  ⟨by rw [Lib.iterAt_size]; exact h.k.1, fun i hi h5 h6 => (Lib.iterAt_other _ _ _ _ _ (by omega)).trans (h.k.2 i hi h5 h6)⟩, h.wb, h.gl, h.ge, h.lt, (Lib.iterAt_other _ _ _ _ _ (by omega)).trans h.zero, (Lib.iterAt_other _ _ _ _ _ (by omega)).trans h.box,
  Kd.R_mono (Kd.R_step hr (fun k hk _ => Lib.iterAt_other _ _ _ _ _ hk)) (fun _ _ => trivial)⟩
theorem RIAt.at1 (h : RIAt g b2 b3 z tl x v s1 s2 s3 s4 w0 w w1) (j : Nat) : w1.cell? ⟨b3, j, none⟩ = (instObj x v)[j]? := blk_cell h.box j
end
theorem ri_round (k : Nat) (tl : List (S84)) (q : ByteArray) (st R : RSt) (pos : Nat) (hp : pos < q.size) (ha : asciiB q = true) (h : riSteps k tl (q.data.toList.drop pos) st = some R) :
  ∃ (cn : Nat) (st2 : RSt), (q[pos]'hp).toNat = cn ∧ cn < 128 ∧ riStep k tl cn st = some st2 ∧ riSteps k tl (q.data.toList.drop (pos + 1)) st2 = some R := by
 have hp2 : pos < q.data.toList.length := by rw [← size_data]; exact hp
 rw [List.drop_eq_getElem_cons hp2] at h
 obtain ⟨s, hs, h⟩ := Option.bind_eq_some_iff.mp h
 have hasc : (q.data.toList[pos]).toNat < 128 := by
  unfold asciiB at ha
  rw [List.all_eq_true] at ha
  exact of_decide_eq_true (ha _ (List.getElem_mem hp2))
 exact ⟨_, s, rfl, hasc, hs, h⟩
set_option maxHeartbeats 8000000 in
set_option maxRecDepth 100000 in
theorem listing_reader_inst.calls (k : Nat) (g : Nat) (s0_0 : List (S84)) (s0_1 : Int) (s0_2 : Int) (s0_3 : Int) (s0_4 : Int) (r1 : Int) (r2 : Int) (r3 : Int) (r4 : Int) (r5 : Int) (r6 : List Int) (r7 : Int) (r8 : Int) (r9 : Int) (r10 : Int) (r11 : Int) (r12 : Int) (w0 w : World) (hI : IsS67 w0 w g s0_0 s0_1 s0_2 s0_3 s0_4) (hB : Below w0.heap.size w0 w) (h : listing_reader_inst.f k s0_0 s0_1 s0_2 s0_3 s0_4 = some (r1, r2, r3, r4, r5, r6, r7, r8, r9, r10, r11, r12)) :
 Calls Try.prog 60 #[.pointer (some ⟨g, 0, none⟩)] w fun e w' => ∃ v5_ : Value, e = .returned (.agg #[.int .i64 r1, .int .i64 r2, .int .i64 r3, .int .i64 r4, .int .i64 r5, v5_, .int .i64 r7, .int .i64 r8]) ∧ Kd.R (Kd.int .i64) 3 w' w.heap.size (fun _ => True) v5_ r6 ∧ IsS67 w0 w' g s0_0 r9 r10 r11 r12 ∧ Below w0.heap.size w0 w' ∧ KeepBut w w' g none := by
 have hu37 := Try.underlying37
 unfold listing_reader_inst.f at h
 replace h := Option.bind_eq_some_iff.mp h
 obtain ⟨⟨p0, p1, p2, p3, p4⟩, hp, h⟩ := h
 replace h := Option.bind_eq_some_iff.mp h
 obtain ⟨op, hop, h⟩ := h
 replace h := Option.bind_eq_some_iff.mp h
 obtain ⟨⟨q1, q2, q3, q4⟩, hq, h⟩ := h
 replace h := Option.bind_eq_some_iff.mp h
 obtain ⟨ps, hps, h⟩ := h
 by_cases hg : asciiB ps = true ∧ ps.size ≤ 8
 rotate_left
 ·rw [if_neg hg] at h
  cases h
 rw [if_pos hg] at h
 replace h := Option.bind_eq_some_iff.mp h
 obtain ⟨st, hst, h⟩ := h
 have HO := Aside0.mk (Option.some.inj h)
 have HP := Aside0.mk hp
 have HOP := Aside0.mk hop
 have HQ := Aside0.mk hq
 have HPS := Aside0.mk hps
 have HG := Aside0.mk hg
 have HST := Aside0.mk hst
 have HI := Aside0.mk hI
 have HB := Aside0.mk hB
 have HL := Aside0.mk hI.lt
 clear h hp hop hq hps hg hst hI hB
 go_enter Try.func60, Try.ntmps60
 have hbz := blk_new w (.cells #[.int .i64 0, .int .i64 0, .int .i64 0, .int .i64 0, .int .i64 0, .slice none 0 0, .int .i64 0, .int .i64 0] 37)
 have hi0 := HI.out.alloc (.cells #[.int .i64 0, .int .i64 0, .int .i64 0, .int .i64 0, .int .i64 0, .slice none 0 0, .int .i64 0, .int .i64 0] 37)
 have hb0 := below_alloc HB.out (.cells #[.int .i64 0, .int .i64 0, .int .i64 0, .int .i64 0, .int .i64 0, .slice none 0 0, .int .i64 0, .int .i64 0] 37)
 have hk0 := keep_alloc (g := g) (KeepBut.refl w g none) (.cells #[.int .i64 0, .int .i64 0, .int .i64 0, .int .i64 0, .int .i64 0, .slice none 0 0, .int .i64 0, .int .i64 0] 37)
 go_upto_region 1 with (fail)
 generalize w.alloc (.cells #[.int .i64 0, .int .i64 0, .int .i64 0, .int .i64 0, .int .i64 0, .slice none 0 0, .int .i64 0, .int .i64 0] 37) = W0 at hbz hi0 hb0 hk0 ⊢
 have HBZ := Aside0.mk hbz
 have HI0 := Aside0.mk hi0
 have HB0 := Aside0.mk hb0
 have HK0 := Aside0.mk hk0
 clear hbz hi0 hb0 hk0
 go_wp2_with fail
 refine (listing_reader_peek.calls g s0_0 s0_1 s0_2 s0_3 s0_4 p0 p1 p2 p3 p4 w0 _ HI0.out HB0.out HP.out).mono ?_
 rintro e w1 ⟨rfl, hi1, hb1, hk1⟩
 have HBZ1 := Aside0.mk (hk1.blk HBZ.out (by have := HL.out; omega) (by simp))
 have HI1 := Aside0.mk hi1
 have HB1 := Aside0.mk hb1
 have HK1 := Aside0.mk (HK0.out.trans hk1 (.inl rfl))
 clear hi1 hb1 hk1
 go_wp2_with fail
 refine (listing_find.calls k p0 op _ HOP.out).mono ?_
 rintro e w2 ⟨rfl, hb2⟩
 have HX := Aside0.mk (show RIAt g w.heap.size w2.heap.size #[.int .i64 0, .int .i64 0, .int .i64 0, .int .i64 0, .int .i64 0, .slice none 0 0, .int .i64 0, .int .i64 0] s0_0 ⟨op, -1, -1, -1, 0, [], ⟨0, 0⟩⟩ (.slice none 0 0) p1 p2 p3 p4 w0 w (w2.alloc (.cells #[.int .i64 op, .int .i64 (-1), .int .i64 (-1), .int .i64 (-1), .int .i64 0, .slice none 0 0, .int .i64 0, .int .i64 0] 37)) from
  ⟨(HI1.out.below hb2).alloc _, below_alloc (below_step HB1.out hb2) _, keep_alloc (HK1.out.trans (KeepBut.of_below hb2 g none) (.inl rfl)) _, HB.out.size, HL.out, Nat.le_refl _, by have h1 := blk_lt (blk_below HBZ1.out hb2); exact h1, blk_alloc (blk_below HBZ1.out hb2) _, blk_new _ _, Kd.R_nil _ _ _ _ _⟩)
 clear hb2
 go_upto_if 12 with (fail)
 generalize w2.alloc (.cells #[.int .i64 op, .int .i64 (-1), .int .i64 (-1), .int .i64 (-1), .int .i64 0, .slice none 0 0, .int .i64 0, .int .i64 0] 37) = W3 at HX ⊢
 have z0 : W3.cell? ⟨w2.heap.size, 0, none⟩ = some (.int .i64 op) := HX.out.at1 0
 (try simp only [Act.put, List.setIfInBounds_toArray, List.set_cons_zero, List.set_cons_succ])
 go_cut [] (fun wc => Aside0 (RIAt g w.heap.size w2.heap.size #[.int .i64 0, .int .i64 0, .int .i64 0, .int .i64 0, .int .i64 0, .slice none 0 0, .int .i64 0, .int .i64 0] s0_0 ⟨op, -1, -1, -1, 0, [], ⟨0, 0⟩⟩ (.slice none 0 0) q1 q2 q3 q4 w0 w wc))
 case first =>
  have hq := HQ.out
  by_cases c12 : op = 0
  ·rw [if_pos c12] at hq
   have c12b0 : (op == 0) = true := beq_iff_eq.mpr c12
   clear c12
   (first | rw [c12b0] | (simp only [i64_w, i32_w]; rw [c12b0]) | skip)
   have HQ1 := Aside0.mk hq
   clear hq
   go_wp2_with fail
   refine (listing_reader_fail.calls g s0_0 p1 p2 p3 p4 2 q1 q2 q3 q4 w0 _ HX.out.i HX.out.b HQ1.out).mono ?_
   rintro e w4 ⟨rfl, hi4, hb4, hk4⟩
   have HX4 := Aside0.mk (HX.out.call hi4 hb4 hk4)
   clear hi4 hb4 hk4
   go_wp2_with fail
   go_meet
   exact HX4
  ·rw [if_neg c12] at hq
   have c12b0 : (op == 0) = false := beq_eq_false_iff_ne.mpr c12
   clear c12
   (first | rw [c12b0] | (simp only [i64_w, i32_w]; rw [c12b0]) | skip)
   simp only [Option.some.injEq, Prod.mk.injEq] at hq
   obtain ⟨rfl, rfl, rfl, rfl⟩ := hq
   go_wp2_with fail
   go_meet
   exact HX
 case rest =>
  clear HX z0
  have HX := hcut
  clear hcut
  obtain ⟨A0, c0, hG, hg_, hS_⟩ := HX.out.i
  have hc1 := cellS67_1 hG
  have hf1 := blk_frozen hG 1
  have hX2 : RIAt g w.heap.size w2.heap.size #[.int .i64 0, .int .i64 0, .int .i64 0, .int .i64 0, .int .i64 0, .slice none 0 0, .int .i64 0, .int .i64 0] s0_0 ⟨op, -1, -1, -1, 0, [], ⟨0, 0⟩⟩ (.slice none 0 0) (wrap64 (q1 + 1)) q2 q3 q4 w0 w (wc.setCell ⟨g, 1, none⟩ (.int .i64 (wrap64 (q1 + 1)))) :=
   HX.out.call (HX.out.i.set_1 _) (below_set HX.out.b hg_) ((KeepBut.refl wc g none).set_ 1 _)
  clear hG hg_ hS_
  go_upto_region 5 with (fail)
  generalize wc.setCell ⟨g, 1, none⟩ (.int .i64 (wrap64 (q1 + 1))) = W4 at hX2 ⊢
  have HX2 := Aside0.mk hX2
  clear hX2 hc1 hf1 HX
  have z0 : W4.cell? ⟨w2.heap.size, 0, none⟩ = some (.int .i64 op) := HX2.out.at1 0
  go_wp2_with fail
  refine (listing_parts.calls k op ps _ HPS.out).mono ?_
  rintro e w5 ⟨rfl, ⟨nd, rfl⟩⟩
  clear z0
  go_wp2
  go_loopg [] ps.size (fun kq w' => ∃ (pos : Nat) (x : S37) (v : Value) (s1 s2 s3 s4 : Int), Aside0 (pos ≤ ps.size) ∧ Aside0 (riSteps k s0_0 (ps.data.toList.drop pos) (x, s1, s2, s3, s4) = some st) ∧ Aside0 (RIAt g w.heap.size w2.heap.size #[.int .i64 0, .int .i64 0, .int .i64 0, .int .i64 0, .int .i64 0, .slice none 0 0, .int .i64 0, .int .i64 0] s0_0 x v s1 s2 s3 s4 w0 w w') ∧ Aside0 (kq = ps.size - pos) ∧ Aside0 (w'.heap[W4.heap.size]? = some (.stringIter ps pos)))
  case atStart =>
   have hbb : Below W4.heap.size W4 ((W4.drewN nd).iter ps 0) := iter_below (pw_below_drewN (Below.refl _ _) nd) ps 0 (Nat.le_refl _)
   have hit := World.iter_heap (W4.drewN nd) ps 0
   exact ⟨0, _, _, _, _, _, _, ⟨by omega⟩, ⟨HST.out⟩, ⟨HX2.out.below hbb⟩, ⟨by omega⟩, ⟨by simpa using hit⟩⟩
  case round =>
   have HLT := Aside0.mk (blk_lt HX2.out.box)
   have HGL := Aside0.mk (Nat.lt_of_lt_of_le HX2.out.gl (Nat.le_trans HX2.out.ge (Nat.le_of_lt HX2.out.lt)))
   clear HX2
   obtain ⟨pos, x, v, s1, s2, s3, s4, HPO, HRS, HX, HK, HIT⟩ := hrel
   by_cases hp : pos < ps.size
   ·obtain ⟨cn, ⟨x', t1, t2, t3, t4⟩, hcn, hc128, hs, hrest⟩ := ri_round k s0_0 ps _ _ pos hp HG.out.1 HRS.out
    have hn := fun ty => Lib.run_next_ascii_at (P := Try.prog) wr W4.heap.size ps pos ty HIT.out hp (by rw [hcn]; exact hc128)
    rw [hcn] at hn
    have HX2 := Aside0.mk (HX.out.iter HLT.out HIT.out (pos + 1))
    have HI2 := Aside0.mk (Lib.iterAt_heap wr W4.heap.size ps pos (pos + 1) HIT.out)
    have HP2 := Aside0.mk hp
    have HS := Aside0.mk hs
    have HR2 := Aside0.mk hrest
    clear hp hcn hs hrest HX HRS
    generalize hW3 : wr.iterAt W4.heap.size ps (pos + 1) = w3 at hn HX2 HI2
    have HW3 := Aside0.mk hW3
    clear hW3
    go_upto_block 2 with (fail)
    have hs := HS.out
    simp only [riStep] at hs
    by_cases k0 : cn = 100
    ·rw [if_pos k0] at hs
     have g0 : ((cn : Int) == 100) = true := beq_iff_eq.mpr (by omega)
     replace hs := Option.bind_eq_some_iff.mp hs
     obtain ⟨⟨y0, y1, y2, y3, y4⟩, hy, hs⟩ := hs
     have HZ := Aside0.mk hy
     simp only [Option.some.injEq, Prod.mk.injEq] at hs
     obtain ⟨rfl, rfl, rfl, rfl, rfl⟩ := hs
     clear hy
     clear k0
     go_wp2_with fail
     refine (listing_reader_slot.calls k g s0_0 _ _ _ _ y0 _ _ _ _ w0 _ HX2.out.i HX2.out.b HZ.out).mono ?_
     rintro e w5 ⟨rfl, hi5, hb5, hk5⟩
     have HX5 := Aside0.mk (HX2.out.call hi5 hb5 hk5)
     have HI5 := Aside0.mk (hk5.blk HI2.out (by have := HGL.out; have := HLT.out; omega) (by simp))
     clear hi5 hb5 hk5
     have c5 := HX5.out.at1 1
     have f5 := blk_frozen HX5.out.box 1
     simp only [instObj] at c5 f5
     go_wp2_with fail
     go_roundg (ps.size - (pos + 1))
     case measure => have := HK.out; have := HP2.out; omega
     case rel => exact ⟨pos + 1, _, _, _, _, _, _, ⟨by have := HP2.out; omega⟩, ⟨HR2.out⟩, ⟨HX5.out.put _ 1 (.int .i64 y0) rfl rfl⟩, ⟨rfl⟩, ⟨(Below.heap_setCell w5 ⟨w2.heap.size, 1, none⟩ (.int .i64 y0) _ (by have := HLT.out; show W4.heap.size ≠ w2.heap.size; omega)).trans HI5.out⟩⟩
    rw [if_neg k0] at hs
    have g0 : ((cn : Int) == 100) = false := beq_eq_false_iff_ne.mpr (by omega)
    by_cases k1 : cn = 97
    ·rw [if_pos k1] at hs
     have g1 : ((cn : Int) == 97) = true := beq_iff_eq.mpr (by omega)
     replace hs := Option.bind_eq_some_iff.mp hs
     obtain ⟨⟨y0, y1, y2, y3, y4⟩, hy, hs⟩ := hs
     have HZ := Aside0.mk hy
     simp only [Option.some.injEq, Prod.mk.injEq] at hs
     obtain ⟨rfl, rfl, rfl, rfl, rfl⟩ := hs
     clear hy
     clear k1
     go_wp2_with fail
     refine (listing_reader_slot.calls k g s0_0 _ _ _ _ y0 _ _ _ _ w0 _ HX2.out.i HX2.out.b HZ.out).mono ?_
     rintro e w5 ⟨rfl, hi5, hb5, hk5⟩
     have HX5 := Aside0.mk (HX2.out.call hi5 hb5 hk5)
     have HI5 := Aside0.mk (hk5.blk HI2.out (by have := HGL.out; have := HLT.out; omega) (by simp))
     clear hi5 hb5 hk5
     have c5 := HX5.out.at1 2
     have f5 := blk_frozen HX5.out.box 2
     simp only [instObj] at c5 f5
     go_wp2_with fail
     go_roundg (ps.size - (pos + 1))
     case measure => have := HK.out; have := HP2.out; omega
     case rel => exact ⟨pos + 1, _, _, _, _, _, _, ⟨by have := HP2.out; omega⟩, ⟨HR2.out⟩, ⟨HX5.out.put _ 2 (.int .i64 y0) rfl rfl⟩, ⟨rfl⟩, ⟨(Below.heap_setCell w5 ⟨w2.heap.size, 2, none⟩ (.int .i64 y0) _ (by have := HLT.out; show W4.heap.size ≠ w2.heap.size; omega)).trans HI5.out⟩⟩
    rw [if_neg k1] at hs
    have g1 : ((cn : Int) == 97) = false := beq_eq_false_iff_ne.mpr (by omega)
    by_cases k2 : cn = 98
    ·rw [if_pos k2] at hs
     have g2 : ((cn : Int) == 98) = true := beq_iff_eq.mpr (by omega)
     replace hs := Option.bind_eq_some_iff.mp hs
     obtain ⟨⟨y0, y1, y2, y3, y4⟩, hy, hs⟩ := hs
     have HZ := Aside0.mk hy
     simp only [Option.some.injEq, Prod.mk.injEq] at hs
     obtain ⟨rfl, rfl, rfl, rfl, rfl⟩ := hs
     clear hy
     clear k2
     go_wp2_with fail
     refine (listing_reader_slot.calls k g s0_0 _ _ _ _ y0 _ _ _ _ w0 _ HX2.out.i HX2.out.b HZ.out).mono ?_
     rintro e w5 ⟨rfl, hi5, hb5, hk5⟩
     have HX5 := Aside0.mk (HX2.out.call hi5 hb5 hk5)
     have HI5 := Aside0.mk (hk5.blk HI2.out (by have := HGL.out; have := HLT.out; omega) (by simp))
     clear hi5 hb5 hk5
     have c5 := HX5.out.at1 3
     have f5 := blk_frozen HX5.out.box 3
     simp only [instObj] at c5 f5
     go_wp2_with fail
     go_roundg (ps.size - (pos + 1))
     case measure => have := HK.out; have := HP2.out; omega
     case rel => exact ⟨pos + 1, _, _, _, _, _, _, ⟨by have := HP2.out; omega⟩, ⟨HR2.out⟩, ⟨HX5.out.put _ 3 (.int .i64 y0) rfl rfl⟩, ⟨rfl⟩, ⟨(Below.heap_setCell w5 ⟨w2.heap.size, 3, none⟩ (.int .i64 y0) _ (by have := HLT.out; show W4.heap.size ≠ w2.heap.size; omega)).trans HI5.out⟩⟩
    rw [if_neg k2] at hs
    have g2 : ((cn : Int) == 98) = false := beq_eq_false_iff_ne.mpr (by omega)
    by_cases k3 : cn = 102
    ·rw [if_pos k3] at hs
     have g3 : ((cn : Int) == 102) = true := beq_iff_eq.mpr (by omega)
     replace hs := Option.bind_eq_some_iff.mp hs
     obtain ⟨⟨y0, y1, y2, y3, y4⟩, hy, hs⟩ := hs
     have HZ := Aside0.mk hy
     simp only [Option.some.injEq, Prod.mk.injEq] at hs
     obtain ⟨rfl, rfl, rfl, rfl, rfl⟩ := hs
     clear hy
     clear k3
     go_wp2_with fail
     refine (listing_reader_index.calls k g s0_0 _ _ _ _ 102 31 12 y0 _ _ _ _ w0 _ HX2.out.i HX2.out.b HZ.out).mono ?_
     rintro e w5 ⟨rfl, hi5, hb5, hk5⟩
     have HX5 := Aside0.mk (HX2.out.call hi5 hb5 hk5)
     have HI5 := Aside0.mk (hk5.blk HI2.out (by have := HGL.out; have := HLT.out; omega) (by simp))
     clear hi5 hb5 hk5
     have c5 := HX5.out.at1 2
     have f5 := blk_frozen HX5.out.box 2
     simp only [instObj] at c5 f5
     go_wp2_with fail
     go_roundg (ps.size - (pos + 1))
     case measure => have := HK.out; have := HP2.out; omega
     case rel => exact ⟨pos + 1, _, _, _, _, _, _, ⟨by have := HP2.out; omega⟩, ⟨HR2.out⟩, ⟨HX5.out.put _ 2 (.int .i64 y0) rfl rfl⟩, ⟨rfl⟩, ⟨(Below.heap_setCell w5 ⟨w2.heap.size, 2, none⟩ (.int .i64 y0) _ (by have := HLT.out; show W4.heap.size ≠ w2.heap.size; omega)).trans HI5.out⟩⟩
    rw [if_neg k3] at hs
    have g3 : ((cn : Int) == 102) = false := beq_eq_false_iff_ne.mpr (by omega)
    by_cases k4 : cn = 110
    ·rw [if_pos k4] at hs
     have g4 : ((cn : Int) == 110) = true := beq_iff_eq.mpr (by omega)
     replace hs := Option.bind_eq_some_iff.mp hs
     obtain ⟨⟨y0, y1, y2, y3, y4⟩, hy, hs⟩ := hs
     have HZ := Aside0.mk hy
     simp only [Option.some.injEq, Prod.mk.injEq] at hs
     obtain ⟨rfl, rfl, rfl, rfl, rfl⟩ := hs
     clear hy
     clear k4
     go_wp2_with fail
     refine (listing_reader_number.calls k g s0_0 _ _ _ _ y0 _ _ _ _ w0 _ HX2.out.i HX2.out.b HZ.out).mono ?_
     rintro e w5 ⟨rfl, hi5, hb5, hk5⟩
     have HX5 := Aside0.mk (HX2.out.call hi5 hb5 hk5)
     have HI5 := Aside0.mk (hk5.blk HI2.out (by have := HGL.out; have := HLT.out; omega) (by simp))
     clear hi5 hb5 hk5
     have c5 := HX5.out.at1 4
     have f5 := blk_frozen HX5.out.box 4
     simp only [instObj] at c5 f5
     go_wp2_with fail
     go_roundg (ps.size - (pos + 1))
     case measure => have := HK.out; have := HP2.out; omega
     case rel => exact ⟨pos + 1, _, _, _, _, _, _, ⟨by have := HP2.out; omega⟩, ⟨HR2.out⟩, ⟨HX5.out.put _ 4 (.int .i64 y0) rfl rfl⟩, ⟨rfl⟩, ⟨(Below.heap_setCell w5 ⟨w2.heap.size, 4, none⟩ (.int .i64 y0) _ (by have := HLT.out; show W4.heap.size ≠ w2.heap.size; omega)).trans HI5.out⟩⟩
    rw [if_neg k4] at hs
    have g4 : ((cn : Int) == 110) = false := beq_eq_false_iff_ne.mpr (by omega)
    by_cases k5 : cn = 108
    ·rw [if_pos k5] at hs
     have g5 : ((cn : Int) == 108) = true := beq_iff_eq.mpr (by omega)
     replace hs := Option.bind_eq_some_iff.mp hs
     obtain ⟨⟨y0, y1, y2, y3, y4⟩, hy, hs⟩ := hs
     have HZ := Aside0.mk hy
     simp only [Option.some.injEq, Prod.mk.injEq] at hs
     obtain ⟨rfl, rfl, rfl, rfl, rfl⟩ := hs
     clear hy
     clear k5
     go_wp2_with fail
     refine (listing_reader_list.calls k g s0_0 _ _ _ _ y0 _ _ _ _ w0 _ HX2.out.i HX2.out.b HZ.out).mono ?_
     rintro e w5 ⟨v5, rfl, hr5, hi5, hb5, hk5⟩
     obtain ⟨Ao, co, rfl⟩ := Kd.R_slice hr5
     have HR5 := Aside0.mk (Kd.R_lower hr5 (keep_size HX2.out.k))
     have HX5 := Aside0.mk (HX2.out.call hi5 hb5 hk5)
     have HI5 := Aside0.mk (hk5.blk HI2.out (by have := HGL.out; have := HLT.out; omega) (by simp))
     clear hi5 hb5 hk5 hr5
     have c5 := HX5.out.at1 5
     have f5 := blk_frozen HX5.out.box 5
     simp only [instObj] at c5 f5
     go_wp2_with fail
     go_roundg (ps.size - (pos + 1))
     case measure => have := HK.out; have := HP2.out; omega
     case rel => exact ⟨pos + 1, _, _, _, _, _, _, ⟨by have := HP2.out; omega⟩, ⟨HR2.out⟩, ⟨HX5.out.putL _ _ HR5.out⟩, ⟨rfl⟩, ⟨(Below.heap_setCell w5 ⟨w2.heap.size, 5, none⟩ (.slice Ao y0.length co) _ (by have := HLT.out; show W4.heap.size ≠ w2.heap.size; omega)).trans HI5.out⟩⟩
    rw [if_neg k5] at hs
    have g5 : ((cn : Int) == 108) = false := beq_eq_false_iff_ne.mpr (by omega)
    by_cases k6 : cn = 111
    ·rw [if_pos k6] at hs
     have g6 : ((cn : Int) == 111) = true := beq_iff_eq.mpr (by omega)
     replace hs := Option.bind_eq_some_iff.mp hs
     obtain ⟨⟨y0, y1, y2, y3, y4⟩, hy, hs⟩ := hs
     have HZ := Aside0.mk hy
     simp only [Option.some.injEq, Prod.mk.injEq] at hs
     obtain ⟨rfl, rfl, rfl, rfl, rfl⟩ := hs
     clear hy
     clear k6
     go_wp2_with fail
     refine (listing_reader_index.calls k g s0_0 _ _ _ _ 64 65535 7 y0 _ _ _ _ w0 _ HX2.out.i HX2.out.b HZ.out).mono ?_
     rintro e w5 ⟨rfl, hi5, hb5, hk5⟩
     have HX5 := Aside0.mk (HX2.out.call hi5 hb5 hk5)
     have HI5 := Aside0.mk (hk5.blk HI2.out (by have := HGL.out; have := HLT.out; omega) (by simp))
     clear hi5 hb5 hk5
     have c5 := HX5.out.at1 6
     have f5 := blk_frozen HX5.out.box 6
     simp only [instObj] at c5 f5
     go_wp2_with fail
     go_roundg (ps.size - (pos + 1))
     case measure => have := HK.out; have := HP2.out; omega
     case rel => exact ⟨pos + 1, _, _, _, _, _, _, ⟨by have := HP2.out; omega⟩, ⟨HR2.out⟩, ⟨HX5.out.put _ 6 (.int .i64 y0) rfl rfl⟩, ⟨rfl⟩, ⟨(Below.heap_setCell w5 ⟨w2.heap.size, 6, none⟩ (.int .i64 y0) _ (by have := HLT.out; show W4.heap.size ≠ w2.heap.size; omega)).trans HI5.out⟩⟩
    rw [if_neg k6] at hs
    have g6 : ((cn : Int) == 111) = false := beq_eq_false_iff_ne.mpr (by omega)
    by_cases k7 : cn = 116
    ·rw [if_pos k7] at hs
     have g7 : ((cn : Int) == 116) = true := beq_iff_eq.mpr (by omega)
     replace hs := Option.bind_eq_some_iff.mp hs
     obtain ⟨⟨y0, y1, y2, y3, y4⟩, hy, hs⟩ := hs
     have HZ := Aside0.mk hy
     simp only [Option.some.injEq, Prod.mk.injEq] at hs
     obtain ⟨rfl, rfl, rfl, rfl, rfl⟩ := hs
     clear hy
     clear k7
     go_wp2_with fail
     refine (listing_reader_index.calls k g s0_0 _ _ _ _ 64 65535 7 y0 _ _ _ _ w0 _ HX2.out.i HX2.out.b HZ.out).mono ?_
     rintro e w5 ⟨rfl, hi5, hb5, hk5⟩
     have HX5 := Aside0.mk (HX2.out.call hi5 hb5 hk5)
     have HI5 := Aside0.mk (hk5.blk HI2.out (by have := HGL.out; have := HLT.out; omega) (by simp))
     clear hi5 hb5 hk5
     have c5 := HX5.out.at1 7
     have f5 := blk_frozen HX5.out.box 7
     simp only [instObj] at c5 f5
     go_wp2_with fail
     go_roundg (ps.size - (pos + 1))
     case measure => have := HK.out; have := HP2.out; omega
     case rel => exact ⟨pos + 1, _, _, _, _, _, _, ⟨by have := HP2.out; omega⟩, ⟨HR2.out⟩, ⟨HX5.out.put _ 7 (.int .i64 y0) rfl rfl⟩, ⟨rfl⟩, ⟨(Below.heap_setCell w5 ⟨w2.heap.size, 7, none⟩ (.int .i64 y0) _ (by have := HLT.out; show W4.heap.size ≠ w2.heap.size; omega)).trans HI5.out⟩⟩
    rw [if_neg k7] at hs
    have g7 : ((cn : Int) == 116) = false := beq_eq_false_iff_ne.mpr (by omega)
    replace hs : (x, s1, s2, s3, s4) = (x', t1, t2, t3, t4) := Option.some.inj hs
    simp only [Prod.mk.injEq] at hs
    obtain ⟨rfl, rfl, rfl, rfl, rfl⟩ := hs
    clear k0 k1 k2 k3 k4 k5 k6 k7
    go_wp2_with fail
    go_roundg (ps.size - (pos + 1))
    case measure => have := HK.out; have := HP2.out; omega
    case rel => exact ⟨pos + 1, _, _, _, _, _, _, ⟨by have := HP2.out; omega⟩, ⟨HR2.out⟩, HX2, ⟨rfl⟩, HI2⟩
   ·have hd : ps.data.toList.drop pos = [] := List.drop_eq_nil_of_le (by rw [← size_data]; omega)
    have hr := HRS.out
    rw [hd] at hr
    obtain rfl := Option.some.inj hr
    have hn := fun ty => Lib.run_next_end_at (P := Try.prog) wr W4.heap.size ps pos ty HIT.out hp
    clear hd hr hp HRS
    obtain ⟨Ao, co, rfl⟩ := Kd.R_slice HX.out.row
    have c_0 := HX.out.at1 0
    have f_0 := blk_frozen HX.out.box 0
    have d_0 := blk_cell HX.out.zero 0
    have e_0 := blk_frozen HX.out.zero 0
    have c_1 := HX.out.at1 1
    have f_1 := blk_frozen HX.out.box 1
    have d_1 := blk_cell HX.out.zero 1
    have e_1 := blk_frozen HX.out.zero 1
    have c_2 := HX.out.at1 2
    have f_2 := blk_frozen HX.out.box 2
    have d_2 := blk_cell HX.out.zero 2
    have e_2 := blk_frozen HX.out.zero 2
    have c_3 := HX.out.at1 3
    have f_3 := blk_frozen HX.out.box 3
    have d_3 := blk_cell HX.out.zero 3
    have e_3 := blk_frozen HX.out.zero 3
    have c_4 := HX.out.at1 4
    have f_4 := blk_frozen HX.out.box 4
    have d_4 := blk_cell HX.out.zero 4
    have e_4 := blk_frozen HX.out.zero 4
    have c_5 := HX.out.at1 5
    have f_5 := blk_frozen HX.out.box 5
    have d_5 := blk_cell HX.out.zero 5
    have e_5 := blk_frozen HX.out.zero 5
    have c_6 := HX.out.at1 6
    have f_6 := blk_frozen HX.out.box 6
    have d_6 := blk_cell HX.out.zero 6
    have e_6 := blk_frozen HX.out.zero 6
    have c_7 := HX.out.at1 7
    have f_7 := blk_frozen HX.out.box 7
    have d_7 := blk_cell HX.out.zero 7
    have e_7 := blk_frozen HX.out.zero 7
    have HE := Aside0.mk (((((((((HX.out.setz 0 (.int .i64 x.f0)).setz 1 (.int .i64 x.f1)).setz 2 (.int .i64 x.f2)).setz 3 (.int .i64 x.f3)).setz 4 (.int .i64 x.f4)).setz 5 (.slice Ao x.f5.length co)).setz 6 (.int .i64 x.f6.f0)).setz 7 (.int .i64 x.f6.f1)))
    have hne : w.heap.size ≠ w2.heap.size := by have := HX.out.lt; omega
    have hne' : w2.heap.size ≠ w.heap.size := by have := HX.out.lt; omega
    simp only [instObj] at c_0 c_1 c_2 c_3 c_4 c_5 c_6 c_7
    have HOO := HO
    clear HX
    go_wp2
    have ho := HOO.out
    unfold riOut at ho
    simp only [Prod.mk.injEq] at ho
    obtain ⟨rfl, rfl, rfl, rfl, rfl, rfl, rfl, rfl, rfl, rfl, rfl, rfl⟩ := ho
    refine bodyPost_ret (results_cell_row rfl _ _ w.heap.size 37 #[.int .i64 x.f0, .int .i64 x.f1, .int .i64 x.f2, .int .i64 x.f3, .int .i64 x.f4, .slice Ao x.f5.length co, .int .i64 x.f6.f0, .int .i64 x.f6.f1] (0, 0) _ rfl HE.out.zero Try.underlying37 rfl (by kernel_rfl)) rfl ?_
    exact ⟨_, rfl, HE.out.row, HE.out.i, HE.out.b, HE.out.k⟩
end Go.Proofs.Ytkgjbdbhpohkiaa.PLi
end
