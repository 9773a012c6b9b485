import Derived.Test.YtkgjbdbhpohkiaaMw19
import Derived.Test.YtkgjbdbhpohkiaaMw21
import Derived.Test.YtkgjbdbhpohkiaaMw2
import Derived.Test.YtkgjbdbhpohkiaaMw5
import Derived.Test.YtkgjbdbhpohkiaaMw20
import Derived.Test.YtkgjbdbhpohkiaaMw17
import Derived.Test.YtkgjbdbhpohkiaaMw7
-- from YtkgjbdbhpohkiaaHLWorks
section
namespace Go.Proofs.Ytkgjbdbhpohkiaa.PLi
open Go.RowKit Go.Proofs.YtkgjbdbhpohkiaaW.PrintWords Go.Proofs.YtkgjbdbhpohkiaaW.PrintLast Go.Proofs.YtkgjbdbhpohkiaaW.PrintMore Go.Proofs.Ytkgjbdbhpohkiaa.Str
set_option linter.unusedVariables false
set_option linter.unusedSimpArgs false
def wkCode : List S37 := [⟨1, 2, (-1), (-1), (-3), [], ⟨0, 0⟩⟩, ⟨21, (-1), 0, (-1), 300, [2], ⟨0, 0⟩⟩, ⟨27, (-1), 2, (-1), 0, [], ⟨0, 3⟩⟩, ⟨28, (-1), (-1), (-1), 0, [], ⟨0, 0⟩⟩]
def wkBody : S33 := ⟨[1], 3, wkCode⟩
def wkText : ByteArray := ⟨#[98, 111, 100, 121, 32, 40, 115, 49, 41, 32, 51, 32, 123, 10, 32, 32, 99, 111, 110, 115, 116, 32, 115, 50, 32, 45, 51, 10, 32, 32, 99, 97, 108, 108, 32, 95, 32, 102, 48, 32, 51, 48, 48, 32, 40, 115, 50, 41, 10, 32, 32, 105, 102, 32, 115, 50, 32, 64, 48, 32, 64, 51, 10, 32, 32, 114, 101, 116, 32, 95, 10, 125, 10]⟩
def wkBad : ByteArray := ⟨#[98, 111, 100, 121, 32, 40, 115, 49, 41, 32, 51, 32, 123, 32, 106, 117, 109, 112, 32, 125]⟩
def turntablelaw37_works.f : Option Bool := some true
theorem wk_1 : listing_Text.f 60 [wkBody] = some wkText := by decide +kernel
theorem wk_2 : listing_Read.f 60 wkText = some ([wkBody], 0, 0) := by kernel_rfl
theorem wk_3 : listing_Read.f 60 wkBad = some ([], 2, 14) := by kernel_rfl
theorem wk_4 : turntableref32_Same.f [wkBody] [wkBody] = some true := by decide +kernel
theorem wk_5 : listing_Word.f 30 = some ⟨#[109, 111, 118, 101]⟩ := by decide +kernel
theorem wk_6 : listing_Inst.f 60 28 (-1) (-1) (-1) 0 [] 0 0 = some ⟨#[114, 101, 116, 32, 95]⟩ := by decide +kernel
set_option maxHeartbeats 8000000 in
set_option maxRecDepth 100000 in
theorem turntablelaw37_works.calls (r : Bool) (w : World) (h : turntablelaw37_works.f = some r) :
    Calls Try.prog 9 #[] w fun e w' => e = .returned (.bool r) ∧ Below w.heap.size w w' := by
  obtain rfl := Option.some.inj h
  clear h
  have hu37 := Try.underlying37
  have hu35 := Try.underlying35
  have hu33 := Try.underlying33
  have hu26 := Try.underlying26
  have hr1 : Kd.R (Kd.int .i64) 3 (w.alloc (.cells #[.int .i64 1] 3)) w.heap.size (fun _ => True) (.slice (some ⟨w.heap.size, 0, none⟩) 1 1) [1] := ⟨fun _ _ => trivial, [.int .i64 1], World.ownsRow_lit (base := w.heap.size) (e := 3) (size := 1) w #[.int .i64 1] 1 (Nat.le_refl _) (by decide) rfl, Reps.one (show Kd.M (Kd.int .i64) _ _ _ 1 [.int .i64 1] from rfl) (Reps.none _ _)⟩
  have hb1 := below_alloc (Below.refl w.heap.size w) (.cells #[.int .i64 1] 3)
  have hz1 : (w.alloc (.cells #[.int .i64 1] 3)).heap.size = w.heap.size + 1 := by simp
  go_enter Try.func9, Try.ntmps9
  go_upto_region 2 with (fail)
  generalize w.alloc (.cells #[.int .i64 1] 3) = W1 at hr1 hb1 hz1 ⊢
  have hr2 : Kd.R (Kd.int .i64) 3 (W1.alloc (.cells #[.int .i64 2] 3)) w.heap.size (fun _ => True) (.slice (some ⟨w.heap.size + 1, 0, none⟩) 1 1) [2] := by
    rw [← hz1]
    exact ⟨fun _ _ => trivial, [.int .i64 2], World.ownsRow_lit (base := w.heap.size) (e := 3) (size := 1) W1 #[.int .i64 2] 1 (by omega) (by decide) rfl, Reps.one (show Kd.M (Kd.int .i64) _ _ _ 2 [.int .i64 2] from rfl) (Reps.none _ _)⟩
  replace hr1 := Kd.R_alloc hr1 (.cells #[.int .i64 2] 3)
  replace hb1 := below_alloc hb1 (.cells #[.int .i64 2] 3)
  have hz2 : (W1.alloc (.cells #[.int .i64 2] 3)).heap.size = w.heap.size + 2 := by simp; omega
  generalize W1.alloc (.cells #[.int .i64 2] 3) = W2 at hr1 hr2 hb1 hz2 ⊢
  clear hz1
  have hr3 : Kd.R k37 37 (W2.alloc (.cells #[.int .i64 1, .int .i64 2, .int .i64 (-1), .int .i64 (-1), .int .i64 (-3), .slice none 0 0, .int .i64 0, .int .i64 0, .int .i64 21, .int .i64 (-1), .int .i64 0, .int .i64 (-1), .int .i64 300, .slice (some ⟨w.heap.size + 1, 0, none⟩) 1 1, .int .i64 0, .int .i64 0, .int .i64 27, .int .i64 (-1), .int .i64 2, .int .i64 (-1), .int .i64 0, .slice none 0 0, .int .i64 0, .int .i64 3, .int .i64 28, .int .i64 (-1), .int .i64 (-1), .int .i64 (-1), .int .i64 0, .slice none 0 0, .int .i64 0, .int .i64 0] 37)) w.heap.size (fun _ => True) (.slice (some ⟨w.heap.size + 2, 0, none⟩) 4 4) wkCode := by
    rw [← hz2]
    exact ⟨fun _ _ => trivial, [.int .i64 1, .int .i64 2, .int .i64 (-1), .int .i64 (-1), .int .i64 (-3), .slice none 0 0, .int .i64 0, .int .i64 0, .int .i64 21, .int .i64 (-1), .int .i64 0, .int .i64 (-1), .int .i64 300, .slice (some ⟨w.heap.size + 1, 0, none⟩) 1 1, .int .i64 0, .int .i64 0, .int .i64 27, .int .i64 (-1), .int .i64 2, .int .i64 (-1), .int .i64 0, .slice none 0 0, .int .i64 0, .int .i64 3, .int .i64 28, .int .i64 (-1), .int .i64 (-1), .int .i64 (-1), .int .i64 0, .slice none 0 0, .int .i64 0, .int .i64 0], World.ownsRow_lit (base := w.heap.size) (e := 37) (size := 8) W2 #[.int .i64 1, .int .i64 2, .int .i64 (-1), .int .i64 (-1), .int .i64 (-3), .slice none 0 0, .int .i64 0, .int .i64 0, .int .i64 21, .int .i64 (-1), .int .i64 0, .int .i64 (-1), .int .i64 300, .slice (some ⟨w.heap.size + 1, 0, none⟩) 1 1, .int .i64 0, .int .i64 0, .int .i64 27, .int .i64 (-1), .int .i64 2, .int .i64 (-1), .int .i64 0, .slice none 0 0, .int .i64 0, .int .i64 3, .int .i64 28, .int .i64 (-1), .int .i64 (-1), .int .i64 (-1), .int .i64 0, .slice none 0 0, .int .i64 0, .int .i64 0] 4 (by omega) (by decide) rfl, (Reps.c8 (k37_mkM _ _ _ (⟨1, 2, (-1), (-1), (-3), [], ⟨0, 0⟩⟩ : S37) (Kd.R_nil _ _ _ _ _)) (Reps.c8 (k37_mkM _ _ _ (⟨21, (-1), 0, (-1), 300, [2], ⟨0, 0⟩⟩ : S37) (Kd.R_apart' (Kd.R_alloc hr2 _) (e' := 37) (fun k hk => by obtain rfl := Option.some.inj hk; exact ⟨_, blk_new W2 _⟩) (by decide))) (Reps.c8 (k37_mkM _ _ _ (⟨27, (-1), 2, (-1), 0, [], ⟨0, 3⟩⟩ : S37) (Kd.R_nil _ _ _ _ _)) (Reps.c8 (k37_mkM _ _ _ (⟨28, (-1), (-1), (-1), 0, [], ⟨0, 0⟩⟩ : S37) (Kd.R_nil _ _ _ _ _)) (Reps.none _ _)))))⟩
  have hr1' := Kd.R_alloc hr1 (.cells #[.int .i64 1, .int .i64 2, .int .i64 (-1), .int .i64 (-1), .int .i64 (-3), .slice none 0 0, .int .i64 0, .int .i64 0, .int .i64 21, .int .i64 (-1), .int .i64 0, .int .i64 (-1), .int .i64 300, .slice (some ⟨w.heap.size + 1, 0, none⟩) 1 1, .int .i64 0, .int .i64 0, .int .i64 27, .int .i64 (-1), .int .i64 2, .int .i64 (-1), .int .i64 0, .slice none 0 0, .int .i64 0, .int .i64 3, .int .i64 28, .int .i64 (-1), .int .i64 (-1), .int .i64 (-1), .int .i64 0, .slice none 0 0, .int .i64 0, .int .i64 0] 37)
  replace hb1 := below_alloc hb1 (.cells #[.int .i64 1, .int .i64 2, .int .i64 (-1), .int .i64 (-1), .int .i64 (-3), .slice none 0 0, .int .i64 0, .int .i64 0, .int .i64 21, .int .i64 (-1), .int .i64 0, .int .i64 (-1), .int .i64 300, .slice (some ⟨w.heap.size + 1, 0, none⟩) 1 1, .int .i64 0, .int .i64 0, .int .i64 27, .int .i64 (-1), .int .i64 2, .int .i64 (-1), .int .i64 0, .slice none 0 0, .int .i64 0, .int .i64 3, .int .i64 28, .int .i64 (-1), .int .i64 (-1), .int .i64 (-1), .int .i64 0, .slice none 0 0, .int .i64 0, .int .i64 0] 37)
  have hz3 : (W2.alloc (.cells #[.int .i64 1, .int .i64 2, .int .i64 (-1), .int .i64 (-1), .int .i64 (-3), .slice none 0 0, .int .i64 0, .int .i64 0, .int .i64 21, .int .i64 (-1), .int .i64 0, .int .i64 (-1), .int .i64 300, .slice (some ⟨w.heap.size + 1, 0, none⟩) 1 1, .int .i64 0, .int .i64 0, .int .i64 27, .int .i64 (-1), .int .i64 2, .int .i64 (-1), .int .i64 0, .slice none 0 0, .int .i64 0, .int .i64 3, .int .i64 28, .int .i64 (-1), .int .i64 (-1), .int .i64 (-1), .int .i64 0, .slice none 0 0, .int .i64 0, .int .i64 0] 37)).heap.size = w.heap.size + 1 + 1 + 1 := by simp; omega
  clear hr1 hr2
  generalize W2.alloc (.cells #[.int .i64 1, .int .i64 2, .int .i64 (-1), .int .i64 (-1), .int .i64 (-3), .slice none 0 0, .int .i64 0, .int .i64 0, .int .i64 21, .int .i64 (-1), .int .i64 0, .int .i64 (-1), .int .i64 300, .slice (some ⟨w.heap.size + 1, 0, none⟩) 1 1, .int .i64 0, .int .i64 0, .int .i64 27, .int .i64 (-1), .int .i64 2, .int .i64 (-1), .int .i64 0, .slice none 0 0, .int .i64 0, .int .i64 3, .int .i64 28, .int .i64 (-1), .int .i64 (-1), .int .i64 (-1), .int .i64 0, .slice none 0 0, .int .i64 0, .int .i64 0] 37) = W3 at hr1' hr3 hb1 hz3 ⊢
  clear hz2
  have hr4 : Kd.R k33 33 (W3.alloc (.cells #[.slice (some ⟨w.heap.size, 0, none⟩) 1 1, .int .i64 3, .slice (some ⟨w.heap.size + 2, 0, none⟩) 4 4] 33)) w.heap.size (fun _ => True) (.slice (some ⟨w.heap.size + 1 + 1 + 1, 0, none⟩) 1 1) [wkBody] := by
    rw [← hz3]
    exact ⟨fun _ _ => trivial, [.slice (some ⟨w.heap.size, 0, none⟩) 1 1, .int .i64 3, .slice (some ⟨w.heap.size + 2, 0, none⟩) 4 4], World.ownsRow_lit (base := w.heap.size) (e := 33) (size := 3) W3 #[.slice (some ⟨w.heap.size, 0, none⟩) 1 1, .int .i64 3, .slice (some ⟨w.heap.size + 2, 0, none⟩) 4 4] 1 (by omega) (by decide) rfl,
      Reps.c3 (k33_mkM _ _ _ wkBody (Kd.R_apart' (Kd.R_alloc hr1' _) (e' := 33) (fun k hk => by obtain rfl := Option.some.inj hk; exact ⟨_, blk_new W3 _⟩) (by decide)) (Kd.R_apart' (Kd.R_alloc hr3 _) (e' := 33) (fun k hk => by obtain rfl := Option.some.inj hk; exact ⟨_, blk_new W3 _⟩) (by decide))) (Reps.none _ _)⟩
  replace hb1 := below_alloc hb1 (.cells #[.slice (some ⟨w.heap.size, 0, none⟩) 1 1, .int .i64 3, .slice (some ⟨w.heap.size + 2, 0, none⟩) 4 4] 33)
  clear hr1' hr3 hz3
  generalize W3.alloc (.cells #[.slice (some ⟨w.heap.size, 0, none⟩) 1 1, .int .i64 3, .slice (some ⟨w.heap.size + 2, 0, none⟩) 4 4] 33) = W4 at hr4 hb1 ⊢
  obtain ⟨A4, c4, e4, hl4, hC4⟩ := Kd.R_reads hr4
  injection e4 with e4 e6 e5
  subst e4
  subst e5
  clear e6
  have HC := Aside0.mk hC4
  have HL := Aside0.mk hl4
  have HB := Aside0.mk hb1
  clear hr4 hb1 hC4 hl4
  go_wp2_with fail
  refine (listing_Text.calls 60 _ _ [wkBody] wkText _ HC.out HL.out wk_1).mono ?_
  rintro e w1 ⟨rfl, hb5⟩
  have HB1 := Aside0.mk (below_step HB.out hb5)
  have HC1 := Aside0.mk (Kd.C_below HC.out hb5)
  clear hb5 HB HC
  go_wp2_with fail
  refine (listing_Read.calls 60 wkText [wkBody] 0 0 _ wk_2).mono ?_
  rintro e w2 ⟨v2, rfl, hr2, hb5⟩
  obtain ⟨A5, c5, e5, hl5, hC5⟩ := Kd.R_reads hr2
  subst e5
  have hb6 := below_alloc (Below.refl w2.heap.size w2) (.cells #[.int .i64 0, .int .i64 0] 26)
  have HB2 := Aside0.mk (below_step (below_step HB1.out hb5) hb6)
  have HC2 := Aside0.mk (Kd.C_below (Kd.C_below HC1.out hb5) hb6)
  have HM2 := Aside0.mk (Kd.C_below hC5 hb6)
  have HML := Aside0.mk hl5
  have HE2 := Aside0.mk (blk_new w2 (.cells #[.int .i64 0, .int .i64 0] 26))
  clear hb5 hb6 hr2 hC5 hl5 HB1 HC1
  go_upto_region 4 with (fail)
  generalize hw2 : w2 = w2_ at *
  generalize w2_.alloc (.cells #[.int .i64 0, .int .i64 0] 26) = W5 at HB2 HC2 HM2 HE2 ⊢
  clear hw2
  go_wp2_with fail
  refine (listing_Read.calls 60 wkBad [] 2 14 _ wk_3).mono ?_
  rintro e w3 ⟨v3, rfl, -, hb5⟩
  have hb6 := below_alloc (Below.refl w3.heap.size w3) (.cells #[.int .i64 2, .int .i64 14] 26)
  have HB3 := Aside0.mk (below_step (below_step HB2.out hb5) hb6)
  have HC3 := Aside0.mk (Kd.C_below (Kd.C_below HC2.out hb5) hb6)
  have HM3 := Aside0.mk (Kd.C_below (Kd.C_below HM2.out hb5) hb6)
  have HE3 := Aside0.mk (blk_below (blk_below HE2.out hb5) hb6)
  have HF3 := Aside0.mk (blk_new w3 (.cells #[.int .i64 2, .int .i64 14] 26))
  clear hb5 hb6 HB2 HC2 HM2 HE2
  go_upto_region 5 with (fail)
  generalize hw3 : w3 = w3_ at *
  generalize w3_.alloc (.cells #[.int .i64 2, .int .i64 14] 26) = W6 at HB3 HC3 HM3 HE3 HF3 ⊢
  clear hw3
  have x0 := blk_cell HE3.out 0
  have x1 := blk_cell HE3.out 1
  have g1 : (wkText.toList == ([98, 111, 100, 121, 32, 40, 115, 49, 41, 32, 51, 32, 123, 10, 32, 32, 99, 111, 110, 115, 116, 32, 115, 50, 32, 45, 51, 10, 32, 32, 99, 97, 108, 108, 32, 95, 32, 102, 48, 32, 51, 48, 48, 32, 40, 115, 50, 41, 10, 32, 32, 105, 102, 32, 115, 50, 32, 64, 48, 32, 64, 51, 10, 32, 32, 114, 101, 116, 32, 95, 10, 125, 10] : List UInt8)) = true := by decide +kernel
  go_wp2_with fail
  refine (turntableref32_Same.calls _ _ [wkBody] _ _ [wkBody] true _ HC3.out HL.out HM3.out HML.out wk_4).mono ?_
  rintro e w4 ⟨rfl, hb5⟩
  have HB4 := Aside0.mk (below_step HB3.out hb5)
  have HC4 := Aside0.mk (Kd.C_below HC3.out hb5)
  have hf := blk_below HF3.out hb5
  have y0 := blk_cell hf 0
  have y1 := blk_cell hf 1
  clear hb5 HB3 HC3 hf x0 x1 g1
  go_wp2_with fail
  refine (listing_Word.calls 30 _ _ wk_5).mono ?_
  rintro e w5 ⟨rfl, hb5⟩
  have HB5 := Aside0.mk (below_step HB4.out hb5)
  have HC5 := Aside0.mk (Kd.C_below HC4.out hb5)
  clear hb5 HB4 HC4
  obtain ⟨ad, B0, d0, B2, d2, e12, u0, u1, u2, -, -, hd2, hg2⟩ := at_T33 HC5.out 0 (by decide) (by decide)
  cases e12
  obtain ⟨ad2, B3, d3, e13, z0, z1, z2, z3, z4, z5, z6, z7, l3, g3⟩ := at_T37 hg2 3 (by decide) (by decide)
  cases e13
  have HL3 := Aside0.mk l3
  have HG3 := Aside0.mk g3
  clear l3 g3 hg2 hd2
  have u2' : w5.cell? ⟨w.heap.size + 1 + 1 + 1, 2, none⟩ = some (.slice (some ad2) 4 d2) := u2
  have z0' : w5.cell? ⟨ad2.block, ad2.off + 24, none⟩ = some (.int .i64 28) := z0
  have z1' : w5.cell? ⟨ad2.block, ad2.off + 24 + 1, none⟩ = some (.int .i64 (-1)) := z1
  have z2' : w5.cell? ⟨ad2.block, ad2.off + 24 + 2, none⟩ = some (.int .i64 (-1)) := z2
  have z3' : w5.cell? ⟨ad2.block, ad2.off + 24 + 3, none⟩ = some (.int .i64 (-1)) := z3
  have z4' : w5.cell? ⟨ad2.block, ad2.off + 24 + 4, none⟩ = some (.int .i64 0) := z4
  have z5' : w5.cell? ⟨ad2.block, ad2.off + 24 + 5, none⟩ = some (.slice B3 0 d3) := z5
  have z6' : w5.cell? ⟨ad2.block, ad2.off + 24 + 6, none⟩ = some (.int .i64 0) := z6
  have z7' : w5.cell? ⟨ad2.block, ad2.off + 24 + 7, none⟩ = some (.int .i64 0) := z7
  clear u0 u1 u2 z0 z1 z2 z3 z4 z5 z6 z7
  go_wp2_with fail
  refine (listing_Inst.calls 60 28 (-1) (-1) (-1) 0 B3 d3 [] 0 0 _ _ HG3.out HL3.out wk_6).mono ?_
  rintro e w6 ⟨rfl, hb5⟩
  have HB6 := Aside0.mk (below_step HB5.out hb5)
  clear hb5
  go_wp2
  go_ret
  exact ⟨rfl, HB6.out⟩
end Go.Proofs.Ytkgjbdbhpohkiaa.PLi
end
-- from YtkgjbdbhpohkiaaPLix2
section
namespace Go.Proofs.Ytkgjbdbhpohkiaa.PLi
open Go.RowKit Go.Proofs.YtkgjbdbhpohkiaaW.PrintWords Go.Proofs.YtkgjbdbhpohkiaaW.PrintLast Go.Proofs.YtkgjbdbhpohkiaaW.PrintMore Go.Proofs.Ytkgjbdbhpohkiaa.Zip
attribute [local go_sem] max2_int min2_int max_two min_two max_three min_three max_four min_four   -- for this text's walks alone
set_option linter.unusedVariables false
set_option linter.unusedSimpArgs false
def turntableref33_slot.f (a0 : Bool) (a1 : Bool) (a2 : Int) (a3 : Int) : Option (Bool) := if a0 = true then (if a1 = true then (if a2 = (-1) then (some (a2 == (-1))) else (if a2 ≥ 0 then (some (decide (a2 < a3))) else (some false))) else (if a2 ≥ 0 then (some (decide (a2 < a3))) else (some false))) else (some (a2 == (-1)))
set_option maxHeartbeats 8000000 in
set_option maxRecDepth 100000 in
theorem turntableref33_slot.calls (a0 : Bool) (a1 : Bool) (a2 : Int) (a3 : Int) (r : Bool) (w : World) (h : turntableref33_slot.f a0 a1 a2 a3 = some r) :
  Calls Try.prog 73 #[.bool a0, .bool a1, .int .i64 a2, .int .i64 a3] w fun e w' => e = .returned (.bool r) ∧ Drawn0 w w' := by
 have H : (if a0 = true then (if a1 = true then (if a2 = (-1) then (some (a2 == (-1))) else (if a2 ≥ 0 then (some (decide (a2 < a3))) else (some false))) else (if a2 ≥ 0 then (some (decide (a2 < a3))) else (some false))) else (some (a2 == (-1)))) = some r := h
 clear h
 by_cases c5 : a0 = true
 ·subst c5
  have H1 : (if a1 = true then (if a2 = (-1) then (some (a2 == (-1))) else (if a2 ≥ 0 then (some (decide (a2 < a3))) else (some false))) else (if a2 ≥ 0 then (some (decide (a2 < a3))) else (some false))) = some r := by rw [if_pos rfl] at H; exact H
  clear H
  have H := H1
  clear H1
  by_cases c6 : a1 = true
  ·subst c6
   have H1 : (if a2 = (-1) then (some (a2 == (-1))) else (if a2 ≥ 0 then (some (decide (a2 < a3))) else (some false))) = some r := by rw [if_pos rfl] at H; exact H
   clear H
   have H := H1
   clear H1
   by_cases c7 : a2 = (-1)
   ·rw [if_pos c7] at H
    have c7b0 : (a2 == (-1)) = true := beq_iff_eq.mpr c7
    have c7b1 : (a2 != (-1)) = false := bne_eq_false_iff_eq.mpr c7
    clear c7
    obtain rfl := Option.some.inj H
    go_enter Try.func73, Try.ntmps73
    go_wp2
    go_ret
    exact ⟨by first | rfl | (simp; done) | (simp [*]; done), zQ⟩
   ·rw [if_neg c7] at H
    have c7b0 : (a2 == (-1)) = false := beq_eq_false_iff_ne.mpr c7
    have c7b1 : (a2 != (-1)) = true := bne_iff_ne.mpr c7
    by_cases c8 : a2 ≥ 0
    ·rw [if_pos c8] at H
     have c8b0 : decide (0 ≤ a2) = true := decide_eq_true c8
     clear c8
     obtain rfl := Option.some.inj H
     go_enter Try.func73, Try.ntmps73
     go_wp2
     go_ret
     exact ⟨by first | rfl | (simp; done) | (simp [*]; done), zQ⟩
    ·rw [if_neg c8] at H
     have c8b0 : decide (0 ≤ a2) = false := decide_eq_false c8
     clear c8
     obtain rfl := Option.some.inj H
     go_enter Try.func73, Try.ntmps73
     go_wp2
     go_ret
     exact ⟨by first | rfl | (simp; done) | (simp [*]; done), zQ⟩
  ·replace c6 := Bool.eq_false_iff.mpr c6
   subst c6
   have H1 : (if a2 ≥ 0 then (some (decide (a2 < a3))) else (some false)) = some r := by rw [if_neg (show ¬ (false = true) by decide)] at H; exact H
   clear H
   have H := H1
   clear H1
   by_cases c9 : a2 ≥ 0
   ·rw [if_pos c9] at H
    have c9b0 : decide (0 ≤ a2) = true := decide_eq_true c9
    clear c9
    obtain rfl := Option.some.inj H
    go_enter Try.func73, Try.ntmps73
    go_wp2
    go_ret
    exact ⟨by first | rfl | (simp; done) | (simp [*]; done), zQ⟩
   ·rw [if_neg c9] at H
    have c9b0 : decide (0 ≤ a2) = false := decide_eq_false c9
    clear c9
    obtain rfl := Option.some.inj H
    go_enter Try.func73, Try.ntmps73
    go_wp2
    go_ret
    exact ⟨by first | rfl | (simp; done) | (simp [*]; done), zQ⟩
 ·replace c5 := Bool.eq_false_iff.mpr c5
  subst c5
  have H1 : (some (a2 == (-1))) = some r := by rw [if_neg (show ¬ (false = true) by decide)] at H; exact H
  clear H
  have H := H1
  clear H1
  obtain rfl := Option.some.inj H
  go_enter Try.func73, Try.ntmps73
  go_wp2
  go_ret
  exact ⟨by first | rfl | (simp; done) | (simp [*]; done), zQ⟩
def turntableref33_in.l0 : Nat → ByteArray → Int → Int → Option (Bool)
 | 0, _, _, _ => none
 | k + 1, x0, x1, x5 => if x5 < (x0.size : Int) then (if 0 ≤ x5 then (if (bt x0 x5) = x1 then (some true) else (turntableref33_in.l0 k x0 x1 (wrap64 (x5 + 1)))) else (none)) else (some false)
def turntableref33_in.f (k : Nat) (a0 : ByteArray) (a1 : Int) : Option (Bool) := turntableref33_in.l0 k a0 a1 0
theorem turntableref33_in.mono_l : ∀ k, (∀ y0 y1 y2, LeO (turntableref33_in.l0 k y0 y1 y2) (turntableref33_in.l0 (k + 1) y0 y1 y2))
 | 0 => fun _ _ _ r h => by simp [turntableref33_in.l0] at h
 | k + 1 => by
  have ih0 := turntableref33_in.mono_l k
  ·intro y0 y1 y2
   unfold turntableref33_in.l0
   repeat' first
   | (with_reducible exact ih0 _ _ _)
   | (with_reducible exact LeO.refl _)
   | (with_reducible exact LeO.none _)
   | (with_reducible refine LeO.ite ?_ ?_)
   | (with_reducible refine LeO.bind ?_ (fun _ => ?_))
   | exact ih0 _ _ _
   | exact LeO.none _
   | refine LeO.ite ?_ ?_
   | refine LeO.bind ?_ (fun _ => ?_)
theorem turntableref33_in.mono : ∀ a0 a1 k, LeO (turntableref33_in.f k a0 a1) (turntableref33_in.f (k + 1) a0 a1) := by
 intro a0 a1 k
 have ih0 := turntableref33_in.mono_l k
 unfold turntableref33_in.f
 repeat' first
   | (with_reducible exact ih0 _ _ _)
   | (with_reducible exact LeO.refl _)
   | (with_reducible exact LeO.none _)
   | (with_reducible refine LeO.ite ?_ ?_)
   | (with_reducible refine LeO.bind ?_ (fun _ => ?_))
   | exact ih0 _ _ _
   | exact LeO.none _
   | refine LeO.ite ?_ ?_
   | refine LeO.bind ?_ (fun _ => ?_)
set_option maxHeartbeats 8000000 in
set_option maxRecDepth 100000 in
theorem turntableref33_in.calls (k : Nat) (a0 : ByteArray) (a1 : Int) (r : Bool) (w : World) (h : turntableref33_in.f k a0 a1 = some r) :
  Calls Try.prog 74 #[.string a0, .int .u8 a1] w fun e w' => e = .returned (.bool r) ∧ Drawn0 w w' := by
 have H : (turntableref33_in.l0 k a0 a1 0) = some r := h
 clear h
 have H' := Aside0.mk H
 clear H
 go_enter Try.func74, Try.ntmps74
 go_wp2
 go_loopg [5] k (fun kq v5 w' => ∃ (x5_1 : Int), v5 = .int .i64 x5_1 ∧ Aside0 (turntableref33_in.l0 kq a0 a1 x5_1 = some r) ∧ Aside0 (kq ≤ k) ∧ Drawn0 w w')
 case atStart => exact ⟨(0), (by first | rfl | (simp; done) | (simp [*]; done)), H', ⟨Nat.le_refl _⟩, zQ⟩
 case round =>
  clear H'
  try clear p2
  obtain ⟨x5_1, rfl, HA, HK1, ⟨m1, rfl⟩⟩ := hrel
  cases gk with
  | zero => exact absurd HA.out (by simp [turntableref33_in.l0])
  | succ k1 =>
   have H := HA.out
   clear HA
   simp only [turntableref33_in.l0] at H
   by_cases c3 : x5_1 < (a0.size : Int)
   ·rw [if_pos c3] at H
    have c3b0 : decide (x5_1 < (a0.size : Int)) = true := decide_eq_true c3
    clear c3
    by_cases c4 : 0 ≤ x5_1
    ·rw [if_pos c4] at H
     have c4b0 : decide (0 ≤ x5_1) = true := decide_eq_true c4
     clear c4
     by_cases c6 : (bt a0 x5_1) = a1
     ·rw [if_pos c6] at H
      have c6b0 : ((bt a0 x5_1) == a1) = true := beq_iff_eq.mpr c6
      have c6b1 : ((bt a0 x5_1) != a1) = false := bne_eq_false_iff_eq.mpr c6
      clear c6
      obtain rfl := Option.some.inj H
      have p5 : 0 ≤ (x5_1 : Int) := of_decide_eq_true zS
      have q5 : x5_1 < (a0.size : Int) := of_decide_eq_true zS
      have hx5 := bt_at a0 x5_1
      replace p5 := eq_true p5
      replace q5 := eq_true q5
      go_wp2
      go_ret
      exact ⟨by first | rfl | (simp; done) | (simp [*]; done), zQ⟩
     ·rw [if_neg c6] at H
      have c6b0 : ((bt a0 x5_1) == a1) = false := beq_eq_false_iff_ne.mpr c6
      have c6b1 : ((bt a0 x5_1) != a1) = true := bne_iff_ne.mpr c6
      have H' := Aside0.mk H
      clear H
      have p5 : 0 ≤ (x5_1 : Int) := of_decide_eq_true zS
      have q5 : x5_1 < (a0.size : Int) := of_decide_eq_true zS
      have hx5 := bt_at a0 x5_1
      replace p5 := eq_true p5
      replace q5 := eq_true q5
      go_wp2
      go_roundg k1
      case measure => have := HK1.out; omega
      case rel => exact ⟨(wrap64 (x5_1 + 1)), (by first | rfl | (simp; done) | (simp [*]; done)), H', ⟨by have := HK1.out; omega⟩, zQ⟩
    ·rw [if_neg c4] at H
     exact absurd H (by simp)
   ·rw [if_neg c3] at H
    have c3b0 : decide (x5_1 < (a0.size : Int)) = false := decide_eq_false c3
    clear c3
    obtain rfl := Option.some.inj H
    go_wp2
    go_ret
    exact ⟨by first | rfl | (simp; done) | (simp [*]; done), zQ⟩
def turntableref33_place.f (a0 : Bool) (a1 : Int) (a2 : Int) : Option (Bool) := if a0 = true then (if a1 ≥ 0 then (some (decide (a1 < a2))) else (some false)) else (some (a1 == 0))
set_option maxHeartbeats 8000000 in
set_option maxRecDepth 100000 in
theorem turntableref33_place.calls (a0 : Bool) (a1 : Int) (a2 : Int) (r : Bool) (w : World) (h : turntableref33_place.f a0 a1 a2 = some r) :
  Calls Try.prog 75 #[.bool a0, .int .i64 a1, .int .i64 a2] w fun e w' => e = .returned (.bool r) ∧ Drawn0 w w' := by
 have H : (if a0 = true then (if a1 ≥ 0 then (some (decide (a1 < a2))) else (some false)) else (some (a1 == 0))) = some r := h
 clear h
 by_cases c4 : a0 = true
 ·subst c4
  have H1 : (if a1 ≥ 0 then (some (decide (a1 < a2))) else (some false)) = some r := by rw [if_pos rfl] at H; exact H
  clear H
  have H := H1
  clear H1
  by_cases c5 : a1 ≥ 0
  ·rw [if_pos c5] at H
   have c5b0 : decide (0 ≤ a1) = true := decide_eq_true c5
   clear c5
   obtain rfl := Option.some.inj H
   go_enter Try.func75, Try.ntmps75
   go_wp2
   go_ret
   exact ⟨by first | rfl | (simp; done) | (simp [*]; done), zQ⟩
  ·rw [if_neg c5] at H
   have c5b0 : decide (0 ≤ a1) = false := decide_eq_false c5
   clear c5
   obtain rfl := Option.some.inj H
   go_enter Try.func75, Try.ntmps75
   go_wp2
   go_ret
   exact ⟨by first | rfl | (simp; done) | (simp [*]; done), zQ⟩
 ·replace c4 := Bool.eq_false_iff.mpr c4
  subst c4
  have H1 : (some (a1 == 0)) = some r := by rw [if_neg (show ¬ (false = true) by decide)] at H; exact H
  clear H
  have H := H1
  clear H1
  obtain rfl := Option.some.inj H
  go_enter Try.func75, Try.ntmps75
  go_wp2
  go_ret
  exact ⟨by first | rfl | (simp; done) | (simp [*]; done), zQ⟩
end Go.Proofs.Ytkgjbdbhpohkiaa.PLi
end
-- from YtkgjbdbhpohkiaaHPiecesR
section
namespace Go.Proofs.Ytkgjbdbhpohkiaa.PLi
open Go.RowKit Go.Proofs.YtkgjbdbhpohkiaaW.PrintWords Go.Proofs.YtkgjbdbhpohkiaaW.PrintLast Go.Proofs.YtkgjbdbhpohkiaaW.PrintMore
set_option linter.unusedVariables false
set_option linter.unusedSimpArgs false
def piecesS (op : Int) : ByteArray := if op = 1 then (⟨#[100, 119]⟩ : ByteArray) else if op = 2 ∨ op = 3 ∨ op = 4 ∨ op = 5 ∨ op = 6 ∨ op = 7 ∨ op = 9 then (⟨#[100, 97, 98]⟩ : ByteArray) else if op = 8 then (⟨#[100]⟩ : ByteArray) else if op = 10 then (⟨#[100, 115]⟩ : ByteArray) else if op = 11 ∨ op = 12 ∨ op = 15 then (⟨#[100, 97, 115]⟩ : ByteArray) else if op = 13 ∨ op = 14 then (⟨#[97, 98, 115]⟩ : ByteArray) else if op = 16 ∨ op = 17 ∨ op = 30 then (⟨#[100, 97]⟩ : ByteArray) else if op = 18 ∨ op = 19 then (⟨#[97, 98]⟩ : ByteArray) else if op = 21 then (⟨#[100, 97, 115, 108]⟩ : ByteArray) else if op = 22 ∨ op = 25 ∨ op = 28 then (⟨#[97]⟩ : ByteArray) else if op = 23 ∨ op = 29 then (⟨#[115]⟩ : ByteArray) else if op = 26 then (⟨#[111]⟩ : ByteArray) else if op = 27 then (⟨#[97, 116]⟩ : ByteArray) else (⟨#[]⟩ : ByteArray)
def turntableref33_Pieces.f (a0 : Int) : Option ByteArray := some (piecesS a0)
def PiecesRPost (w : World) (s : ByteArray) (e : Ending) (w' : World) : Prop := e = .returned (.string s) ∧ Drawn0 w w'
theorem piecesR_1 (w : World) : Calls Try.prog 29 #[.int .i64 1] w (PiecesRPost w (⟨#[100, 119]⟩ : ByteArray)) := by
  go_enter Try.func29, Try.ntmps29
  go_wp2
  go_ret
  exact ⟨rfl, Drawn0.refl _⟩
theorem piecesR_2 (w : World) : Calls Try.prog 29 #[.int .i64 2] w (PiecesRPost w (⟨#[100, 97, 98]⟩ : ByteArray)) := by
  go_enter Try.func29, Try.ntmps29
  go_wp2
  go_ret
  exact ⟨rfl, Drawn0.refl _⟩
theorem piecesR_3 (w : World) : Calls Try.prog 29 #[.int .i64 3] w (PiecesRPost w (⟨#[100, 97, 98]⟩ : ByteArray)) := by
  go_enter Try.func29, Try.ntmps29
  go_wp2
  go_ret
  exact ⟨rfl, Drawn0.refl _⟩
theorem piecesR_4 (w : World) : Calls Try.prog 29 #[.int .i64 4] w (PiecesRPost w (⟨#[100, 97, 98]⟩ : ByteArray)) := by
  go_enter Try.func29, Try.ntmps29
  go_wp2
  go_ret
  exact ⟨rfl, Drawn0.refl _⟩
theorem piecesR_5 (w : World) : Calls Try.prog 29 #[.int .i64 5] w (PiecesRPost w (⟨#[100, 97, 98]⟩ : ByteArray)) := by
  go_enter Try.func29, Try.ntmps29
  go_wp2
  go_ret
  exact ⟨rfl, Drawn0.refl _⟩
theorem piecesR_6 (w : World) : Calls Try.prog 29 #[.int .i64 6] w (PiecesRPost w (⟨#[100, 97, 98]⟩ : ByteArray)) := by
  go_enter Try.func29, Try.ntmps29
  go_wp2
  go_ret
  exact ⟨rfl, Drawn0.refl _⟩
theorem piecesR_7 (w : World) : Calls Try.prog 29 #[.int .i64 7] w (PiecesRPost w (⟨#[100, 97, 98]⟩ : ByteArray)) := by
  go_enter Try.func29, Try.ntmps29
  go_wp2
  go_ret
  exact ⟨rfl, Drawn0.refl _⟩
theorem piecesR_9 (w : World) : Calls Try.prog 29 #[.int .i64 9] w (PiecesRPost w (⟨#[100, 97, 98]⟩ : ByteArray)) := by
  go_enter Try.func29, Try.ntmps29
  go_wp2
  go_ret
  exact ⟨rfl, Drawn0.refl _⟩
theorem piecesR_8 (w : World) : Calls Try.prog 29 #[.int .i64 8] w (PiecesRPost w (⟨#[100]⟩ : ByteArray)) := by
  go_enter Try.func29, Try.ntmps29
  go_wp2
  go_ret
  exact ⟨rfl, Drawn0.refl _⟩
theorem piecesR_10 (w : World) : Calls Try.prog 29 #[.int .i64 10] w (PiecesRPost w (⟨#[100, 115]⟩ : ByteArray)) := by
  go_enter Try.func29, Try.ntmps29
  go_wp2
  go_ret
  exact ⟨rfl, Drawn0.refl _⟩
theorem piecesR_11 (w : World) : Calls Try.prog 29 #[.int .i64 11] w (PiecesRPost w (⟨#[100, 97, 115]⟩ : ByteArray)) := by
  go_enter Try.func29, Try.ntmps29
  go_wp2
  go_ret
  exact ⟨rfl, Drawn0.refl _⟩
theorem piecesR_12 (w : World) : Calls Try.prog 29 #[.int .i64 12] w (PiecesRPost w (⟨#[100, 97, 115]⟩ : ByteArray)) := by
  go_enter Try.func29, Try.ntmps29
  go_wp2
  go_ret
  exact ⟨rfl, Drawn0.refl _⟩
theorem piecesR_15 (w : World) : Calls Try.prog 29 #[.int .i64 15] w (PiecesRPost w (⟨#[100, 97, 115]⟩ : ByteArray)) := by
  go_enter Try.func29, Try.ntmps29
  go_wp2
  go_ret
  exact ⟨rfl, Drawn0.refl _⟩
theorem piecesR_13 (w : World) : Calls Try.prog 29 #[.int .i64 13] w (PiecesRPost w (⟨#[97, 98, 115]⟩ : ByteArray)) := by
  go_enter Try.func29, Try.ntmps29
  go_wp2
  go_ret
  exact ⟨rfl, Drawn0.refl _⟩
theorem piecesR_14 (w : World) : Calls Try.prog 29 #[.int .i64 14] w (PiecesRPost w (⟨#[97, 98, 115]⟩ : ByteArray)) := by
  go_enter Try.func29, Try.ntmps29
  go_wp2
  go_ret
  exact ⟨rfl, Drawn0.refl _⟩
theorem piecesR_16 (w : World) : Calls Try.prog 29 #[.int .i64 16] w (PiecesRPost w (⟨#[100, 97]⟩ : ByteArray)) := by
  go_enter Try.func29, Try.ntmps29
  go_wp2
  go_ret
  exact ⟨rfl, Drawn0.refl _⟩
theorem piecesR_17 (w : World) : Calls Try.prog 29 #[.int .i64 17] w (PiecesRPost w (⟨#[100, 97]⟩ : ByteArray)) := by
  go_enter Try.func29, Try.ntmps29
  go_wp2
  go_ret
  exact ⟨rfl, Drawn0.refl _⟩
theorem piecesR_30 (w : World) : Calls Try.prog 29 #[.int .i64 30] w (PiecesRPost w (⟨#[100, 97]⟩ : ByteArray)) := by
  go_enter Try.func29, Try.ntmps29
  go_wp2
  go_ret
  exact ⟨rfl, Drawn0.refl _⟩
theorem piecesR_18 (w : World) : Calls Try.prog 29 #[.int .i64 18] w (PiecesRPost w (⟨#[97, 98]⟩ : ByteArray)) := by
  go_enter Try.func29, Try.ntmps29
  go_wp2
  go_ret
  exact ⟨rfl, Drawn0.refl _⟩
theorem piecesR_19 (w : World) : Calls Try.prog 29 #[.int .i64 19] w (PiecesRPost w (⟨#[97, 98]⟩ : ByteArray)) := by
  go_enter Try.func29, Try.ntmps29
  go_wp2
  go_ret
  exact ⟨rfl, Drawn0.refl _⟩
theorem piecesR_21 (w : World) : Calls Try.prog 29 #[.int .i64 21] w (PiecesRPost w (⟨#[100, 97, 115, 108]⟩ : ByteArray)) := by
  go_enter Try.func29, Try.ntmps29
  go_wp2
  go_ret
  exact ⟨rfl, Drawn0.refl _⟩
theorem piecesR_22 (w : World) : Calls Try.prog 29 #[.int .i64 22] w (PiecesRPost w (⟨#[97]⟩ : ByteArray)) := by
  go_enter Try.func29, Try.ntmps29
  go_wp2
  go_ret
  exact ⟨rfl, Drawn0.refl _⟩
theorem piecesR_25 (w : World) : Calls Try.prog 29 #[.int .i64 25] w (PiecesRPost w (⟨#[97]⟩ : ByteArray)) := by
  go_enter Try.func29, Try.ntmps29
  go_wp2
  go_ret
  exact ⟨rfl, Drawn0.refl _⟩
theorem piecesR_28 (w : World) : Calls Try.prog 29 #[.int .i64 28] w (PiecesRPost w (⟨#[97]⟩ : ByteArray)) := by
  go_enter Try.func29, Try.ntmps29
  go_wp2
  go_ret
  exact ⟨rfl, Drawn0.refl _⟩
theorem piecesR_23 (w : World) : Calls Try.prog 29 #[.int .i64 23] w (PiecesRPost w (⟨#[115]⟩ : ByteArray)) := by
  go_enter Try.func29, Try.ntmps29
  go_wp2
  go_ret
  exact ⟨rfl, Drawn0.refl _⟩
theorem piecesR_29 (w : World) : Calls Try.prog 29 #[.int .i64 29] w (PiecesRPost w (⟨#[115]⟩ : ByteArray)) := by
  go_enter Try.func29, Try.ntmps29
  go_wp2
  go_ret
  exact ⟨rfl, Drawn0.refl _⟩
theorem piecesR_26 (w : World) : Calls Try.prog 29 #[.int .i64 26] w (PiecesRPost w (⟨#[111]⟩ : ByteArray)) := by
  go_enter Try.func29, Try.ntmps29
  go_wp2
  go_ret
  exact ⟨rfl, Drawn0.refl _⟩
theorem piecesR_27 (w : World) : Calls Try.prog 29 #[.int .i64 27] w (PiecesRPost w (⟨#[97, 116]⟩ : ByteArray)) := by
  go_enter Try.func29, Try.ntmps29
  go_wp2
  go_ret
  exact ⟨rfl, Drawn0.refl _⟩
theorem piecesR_none (n : Int) (w : World) (h : ¬ (n = 1 ∨ n = 2 ∨ n = 3 ∨ n = 4 ∨ n = 5 ∨ n = 6 ∨ n = 7 ∨ n = 8 ∨ n = 9 ∨ n = 10 ∨ n = 11 ∨ n = 12 ∨ n = 13 ∨ n = 14 ∨ n = 15 ∨ n = 16 ∨ n = 17 ∨ n = 18 ∨ n = 19 ∨ n = 21 ∨ n = 22 ∨ n = 23 ∨ n = 25 ∨ n = 26 ∨ n = 27 ∨ n = 28 ∨ n = 29 ∨ n = 30)) : Calls Try.prog 29 #[.int .i64 n] w (PiecesRPost w (⟨#[]⟩ : ByteArray)) := by
  simp only [not_or] at h
  obtain ⟨h1, h2, h3, h4, h5, h6, h7, h8, h9, h10, h11, h12, h13, h14, h15, h16, h17, h18, h19, h21, h22, h23, h25, h26, h27, h28, h29, h30⟩ := h
  have b1 : (n == 1) = false := beq_eq_false_iff_ne.mpr h1
  have b2 : (n == 2) = false := beq_eq_false_iff_ne.mpr h2
  have b3 : (n == 3) = false := beq_eq_false_iff_ne.mpr h3
  have b4 : (n == 4) = false := beq_eq_false_iff_ne.mpr h4
  have b5 : (n == 5) = false := beq_eq_false_iff_ne.mpr h5
  have b6 : (n == 6) = false := beq_eq_false_iff_ne.mpr h6
  have b7 : (n == 7) = false := beq_eq_false_iff_ne.mpr h7
  have b8 : (n == 8) = false := beq_eq_false_iff_ne.mpr h8
  have b9 : (n == 9) = false := beq_eq_false_iff_ne.mpr h9
  have b10 : (n == 10) = false := beq_eq_false_iff_ne.mpr h10
  have b11 : (n == 11) = false := beq_eq_false_iff_ne.mpr h11
  have b12 : (n == 12) = false := beq_eq_false_iff_ne.mpr h12
  have b13 : (n == 13) = false := beq_eq_false_iff_ne.mpr h13
  have b14 : (n == 14) = false := beq_eq_false_iff_ne.mpr h14
  have b15 : (n == 15) = false := beq_eq_false_iff_ne.mpr h15
  have b16 : (n == 16) = false := beq_eq_false_iff_ne.mpr h16
  have b17 : (n == 17) = false := beq_eq_false_iff_ne.mpr h17
  have b18 : (n == 18) = false := beq_eq_false_iff_ne.mpr h18
  have b19 : (n == 19) = false := beq_eq_false_iff_ne.mpr h19
  have b21 : (n == 21) = false := beq_eq_false_iff_ne.mpr h21
  have b22 : (n == 22) = false := beq_eq_false_iff_ne.mpr h22
  have b23 : (n == 23) = false := beq_eq_false_iff_ne.mpr h23
  have b25 : (n == 25) = false := beq_eq_false_iff_ne.mpr h25
  have b26 : (n == 26) = false := beq_eq_false_iff_ne.mpr h26
  have b27 : (n == 27) = false := beq_eq_false_iff_ne.mpr h27
  have b28 : (n == 28) = false := beq_eq_false_iff_ne.mpr h28
  have b29 : (n == 29) = false := beq_eq_false_iff_ne.mpr h29
  have b30 : (n == 30) = false := beq_eq_false_iff_ne.mpr h30
  clear h1 h2 h3 h4 h5 h6 h7 h8 h9 h10 h11 h12 h13 h14 h15 h16 h17 h18 h19 h21 h22 h23 h25 h26 h27 h28 h29 h30
  go_enter Try.func29, Try.ntmps29
  go_wp2
  go_ret
  exact ⟨rfl, Drawn0.refl _⟩
theorem turntableref33_Pieces.calls (a0 : Int) (r : ByteArray) (w : World) (h : turntableref33_Pieces.f a0 = some r) :
    Calls Try.prog 29 #[.int .i64 a0] w fun e w' => e = .returned (.string r) ∧ Drawn0 w w' := by
  obtain rfl := Option.some.inj h
  show Calls Try.prog 29 #[.int .i64 a0] w (PiecesRPost w (piecesS a0))
  by_cases h : a0 = 1 ∨ a0 = 2 ∨ a0 = 3 ∨ a0 = 4 ∨ a0 = 5 ∨ a0 = 6 ∨ a0 = 7 ∨ a0 = 8 ∨ a0 = 9 ∨ a0 = 10 ∨ a0 = 11 ∨ a0 = 12 ∨ a0 = 13 ∨ a0 = 14 ∨ a0 = 15 ∨ a0 = 16 ∨ a0 = 17 ∨ a0 = 18 ∨ a0 = 19 ∨ a0 = 21 ∨ a0 = 22 ∨ a0 = 23 ∨ a0 = 25 ∨ a0 = 26 ∨ a0 = 27 ∨ a0 = 28 ∨ a0 = 29 ∨ a0 = 30
  · rcases h with rfl | rfl | rfl | rfl | rfl | rfl | rfl | rfl | rfl | rfl | rfl | rfl | rfl | rfl | rfl | rfl | rfl | rfl | rfl | rfl | rfl | rfl | rfl | rfl | rfl | rfl | rfl | rfl
    · exact piecesR_1 w
    · exact piecesR_2 w
    · exact piecesR_3 w
    · exact piecesR_4 w
    · exact piecesR_5 w
    · exact piecesR_6 w
    · exact piecesR_7 w
    · exact piecesR_8 w
    · exact piecesR_9 w
    · exact piecesR_10 w
    · exact piecesR_11 w
    · exact piecesR_12 w
    · exact piecesR_13 w
    · exact piecesR_14 w
    · exact piecesR_15 w
    · exact piecesR_16 w
    · exact piecesR_17 w
    · exact piecesR_18 w
    · exact piecesR_19 w
    · exact piecesR_21 w
    · exact piecesR_22 w
    · exact piecesR_23 w
    · exact piecesR_25 w
    · exact piecesR_26 w
    · exact piecesR_27 w
    · exact piecesR_28 w
    · exact piecesR_29 w
    · exact piecesR_30 w
  · have e : piecesS a0 = (⟨#[]⟩ : ByteArray) := by
      unfold piecesS
      simp only [not_or] at h
      simp [h]
    rw [e]
    exact piecesR_none a0 w h
end Go.Proofs.Ytkgjbdbhpohkiaa.PLi
end
-- from YtkgjbdbhpohkiaaCodeOne
section
namespace Go.Proofs.Ytkgjbdbhpohkiaa.CodeLaw
open Go.RowKit Go.Proofs.Ytkgjbdbhpohkiaa.PLi Go.Proofs.YtkgjbdbhpohkiaaW.PrintWords Go.Proofs.YtkgjbdbhpohkiaaW.PrintLast Go.Proofs.YtkgjbdbhpohkiaaW.PrintMore Go.Proofs.Ytkgjbdbhpohkiaa.Str
set_option linter.unusedSimpArgs false
set_option linter.unusedVariables false
def hasC (s : ByteArray) (c : Int) : Bool := s.toList.any (fun b => (b.toNat : Int) == c)
theorem in_l0 (c : Int) : ∀ (rest pre : List UInt8), (pre ++ rest).length ≤ 1000 → Ev (fun k => turntableref33_in.l0 k (mk (pre ++ rest)) c (pre.length : Int)) (rest.any (fun b => (b.toNat : Int) == c)) := by
  intro rest
  induction rest with
  | nil =>
    intro pre h
    refine Ev.step (fun k => by simp only [turntableref33_in.l0]; rfl) (ev_neg ?_ (Ev.now _))
    rw [mk_size]; simp
  | cons b rest ih =>
    intro pre h
    have hp : pre ++ b :: rest = (pre ++ [b]) ++ rest := by simp
    have hw : wrap64 ((pre.length : Int) + 1) = ((pre ++ [b]).length : Int) := by rw [w64 (by omega) (by simp at h; omega)]; simp
    refine Ev.step (fun k => by simp only [turntableref33_in.l0]; rfl) (ev_pos (by rw [mk_size]; simp; omega) (ev_pos (by omega) ?_))
    rw [bt_pre]
    by_cases hc : (b.toNat : Int) = c
    · refine ev_pos hc ?_
      have : List.any (b :: rest) (fun b => (b.toNat : Int) == c) = true := by simp [hc]
      rw [this]; exact Ev.now _
    · refine ev_neg hc ?_
      have : List.any (b :: rest) (fun b => (b.toNat : Int) == c) = rest.any (fun b => (b.toNat : Int) == c) := by simp [hc]
      rw [this, hw, hp]
      exact ih (pre ++ [b]) (by rw [← hp]; exact h)
theorem in_any (s : ByteArray) (c : Int) (h : s.size ≤ 1000) : Ev (fun k => turntableref33_in.f k s c) (hasC s c) := by
  have := in_l0 c s.data.toList [] (by simpa using h)
  rw [List.nil_append] at this
  have e : mk s.data.toList = s := (mk_data s).symm
  unfold hasC
  rw [toList_eq]
  rw [e] at this
  exact this
theorem rd_at (l : List Int) (i : Nat) (h : i < l.length) : rd l (i : Int) = l[i] := by
  unfold rd
  rw [List.getD_eq_getElem?_getD, Int.toNat_natCast, List.getElem?_eq_getElem h]; rfl
theorem rd47_at (l : List S33) (i : Nat) (h : i < l.length) : rd_T33 l (i : Int) = l[i] := by
  unfold rd_T33
  rw [List.getD_eq_getElem?_getD, Int.toNat_natCast, List.getElem?_eq_getElem h]; rfl
theorem rd51_at (l : List S37) (i : Nat) (h : i < l.length) : rd_T37 l (i : Int) = l[i] := by
  unfold rd_T37
  rw [List.getD_eq_getElem?_getD, Int.toNat_natCast, List.getElem?_eq_getElem h]; rfl
def allB (l : List Int) (n : Int) : Bool := !(l.any (offB n)) && decide (l.length ≤ 8)
theorem all_l0 (l : List Int) (n : Int) (hl : l.length ≤ 9223372036854775806) : ∀ (d i : Nat), l.length - i = d → Ev (fun k => turntableref33_all.l0 k l n (i : Int)) (!((l.drop i).any (offB n)) && decide (l.length ≤ 8)) := by
  intro d
  induction d with
  | zero =>
    intro i hd
    refine Ev.step (fun k => by simp only [turntableref33_all.l0]; rfl) (ev_neg (by omega) ?_)
    rw [List.drop_eq_nil_of_le (by omega)]
    have : decide ((l.length : Int) ≤ 8) = decide (l.length ≤ 8) := by congr 1; exact propext (by omega)
    rw [this]
    exact Ev.now _
  | succ d ih =>
    intro i hd
    have hi : i < l.length := by omega
    refine Ev.step (fun k => by simp only [turntableref33_all.l0]; rfl) (ev_pos (by omega) (ev_pos (by omega) ?_))
    rw [rd_at l i hi, List.drop_eq_getElem_cons hi, List.any_cons]
    by_cases h1 : l[i] < 0
    · rw [offB_neg h1]; exact ev_pos h1 (Ev.now _)
    · by_cases h2 : n ≤ l[i]
      · rw [offB_ge h1 h2]; exact ev_neg h1 (ev_pos h2 (Ev.now _))
      · rw [offB_in h1 h2, Bool.false_or]
        have hw : wrap64 ((i : Int) + 1) = ((i + 1 : Nat) : Int) := by rw [w64 (by omega) (by omega)]; omega
        rw [hw]
        exact ev_neg h1 (ev_neg h2 (ih (i + 1) (by omega)))
theorem all_any (l : List Int) (n : Int) (hl : l.length ≤ 9223372036854775806) : Ev (fun k => turntableref33_all.f k l n) (allB l n) := all_l0 l n hl _ 0 rfl
def slotB (has may : Bool) (s size : Int) : Bool := if !has || (may && s == -1) then s == -1 else decide (0 ≤ s) && decide (s < size)
theorem slot_any (has may : Bool) (s size : Int) : turntableref33_slot.f has may s size = some (slotB has may s size) := by
  unfold turntableref33_slot.f slotB
  by_cases h1 : s = -1
  · subst h1; cases has <;> cases may <;> simp
  · by_cases h2 : 0 ≤ s <;> cases has <;> cases may <;> simp [h1, h2]
def placeB (has : Bool) (n size : Int) : Bool := if has then decide (0 ≤ n) && decide (n < size) else n == 0
theorem place_any (has : Bool) (n size : Int) : turntableref33_place.f has n size = some (placeB has n size) := by
  unfold turntableref33_place.f placeB
  by_cases h2 : 0 ≤ n <;> cases has <;> simp [h2]
def refB (op d a b nn : Int) (l : List Int) (t0 t1 size n funcs : Int) : Bool :=
  let s := piecesS op
  !(s.toList.isEmpty) && (if op = 21 then decide (0 ≤ a) && decide (a < funcs) else slotB (hasC s 97) (op == 28) a size) && slotB (hasC s 100) (op == 21) d size && slotB (hasC s 98) false b size &&
    !((hasC s 115 && (decide (nn < 0) || decide (2097152 ≤ nn))) || (!hasC s 115 && !hasC s 119 && nn != 0)) &&
    !((hasC s 108 && !allB l size) || (!hasC s 108 && (l.length != 0))) &&
    placeB (hasC s 111 || hasC s 116) t0 n && placeB (hasC s 116) t1 n
theorem size_ite {c : Prop} [Decidable c] {a b : ByteArray} {n : Nat} (ha : a.size ≤ n) (hb : b.size ≤ n) : (if c then a else b).size ≤ n := by split <;> assumption
theorem pieces_len (op : Int) : (piecesS op).size ≤ 1000 := by
  unfold piecesS
  repeat (first | decide | refine size_ite (by decide) ?_)
theorem ev_bind' {α β : Type} {g : Nat → Option α} {f : Nat → α → Option β} {a : α} {r : β} (h : Ev g a) (k : Ev (fun n => f n a) r) : Ev (fun n => (g n).bind (f n)) r := Ev.bind h k
end Go.Proofs.Ytkgjbdbhpohkiaa.CodeLaw
end
