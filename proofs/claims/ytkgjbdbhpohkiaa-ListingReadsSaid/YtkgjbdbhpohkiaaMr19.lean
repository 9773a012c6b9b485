import Derived.Test.YtkgjbdbhpohkiaaMr17
import Derived.Test.YtkgjbdbhpohkiaaMr18
import Derived.Test.YtkgjbdbhpohkiaaMr2
-- from YtkgjbdbhpohkiaaHLWorks
section
namespace Go.Proofs.Ytkgjbdbhpohkiaa.PLi
open Go.RowKit Go.Proofs.YtkgjbdbhpohkiaaW.PrintWords Go.Proofs.YtkgjbdbhpohkiaaW.PrintLast Go.Proofs.YtkgjbdbhpohkiaaW.PrintMore Go.Proofs.Ytkgjbdbhpohkiaa.Str
set_option linter.unusedVariables false
set_option linter.unusedSimpArgs false
def wkCode : List S37 := [⟨1, 2, (-1), (-1), (-3), [], ⟨0, 0⟩⟩, ⟨21, (-1), 0, (-1), 300, [2], ⟨0, 0⟩⟩, ⟨27, (-1), 2, (-1), 0, [], ⟨0, 3⟩⟩, ⟨28, (-1), (-1), (-1), 0, [], ⟨0, 0⟩⟩]
def wkBody : S33 := ⟨[1], 3, wkCode⟩
def wkText : ByteArray := ⟨#[98, 111, 100, 121, 32, 40, 115, 49, 41, 32, 51, 32, 123, 10, 32, 32, 99, 111, 110, 115, 116, 32, 115, 50, 32, 45, 51, 10, 32, 32, 99, 97, 108, 108, 32, 95, 32, 102, 48, 32, 51, 48, 48, 32, 40, 115, 50, 41, 10, 32, 32, 105, 102, 32, 115, 50, 32, 64, 48, 32, 64, 51, 10, 32, 32, 114, 101, 116, 32, 95, 10, 125, 10]⟩
def wkBad : ByteArray := ⟨#[98, 111, 100, 121, 32, 40, 115, 49, 41, 32, 51, 32, 123, 32, 106, 117, 109, 112, 32, 125]⟩
def l37_works.f : Option Bool := some true
theorem wk_1 : listing_Text.f 60 [wkBody] = some wkText := by decide +kernel
theorem wk_2 : listing_Read.f 60 wkText = some ([wkBody], 0, 0) := by kernel_rfl
theorem wk_3 : listing_Read.f 60 wkBad = some ([], 2, 14) := by kernel_rfl
theorem wk_4 : r32_Same.f [wkBody] [wkBody] = some true := by decide +kernel
theorem wk_5 : listing_Word.f 30 = some ⟨#[109, 111, 118, 101]⟩ := by decide +kernel
theorem wk_6 : listing_Inst.f 60 28 (-1) (-1) (-1) 0 [] 0 0 = some ⟨#[114, 101, 116, 32, 95]⟩ := by decide +kernel
set_option maxHeartbeats 8000000 in
set_option maxRecDepth 100000 in
theorem l37_works.calls (r : Bool) (w : World) (h : l37_works.f = some r) :
  Calls Try.prog 9 #[] w fun e w' => e = .returned (.bool r) ∧ Below w.heap.size w w' := by
 obtain rfl := Option.some.inj h
 clear h
 have hu37 := Try.underlying37
 have hu35 := Try.underlying35
 have hu33 := Try.underlying33
 have hu26 := Try.underlying26
 have hr1 : Kd.R (Kd.int .i64) 3 (w.alloc (.cells #[.int .i64 1] 3)) w.heap.size (fun _ => True) (.slice (some ⟨w.heap.size, 0, none⟩) 1 1) [1] := ⟨fun _ _ => trivial, [.int .i64 1], World.ownsRow_lit (base := w.heap.size) (e := 3) (size := 1) w #[.int .i64 1] 1 (Nat.le_refl _) (by decide) rfl, Reps.one (show Kd.M (Kd.int .i64) _ _ _ 1 [.int .i64 1] from rfl) (Reps.none _ _)⟩
 have hb1 := below_alloc (Below.refl w.heap.size w) (.cells #[.int .i64 1] 3)
 have hz1 : (w.alloc (.cells #[.int .i64 1] 3)).heap.size = w.heap.size + 1 := by simp
 go_enter Try.func9, Try.ntmps9
 go_upto_region 2 with (fail)
 generalize w.alloc (.cells #[.int .i64 1] 3) = W1 at hr1 hb1 hz1 ⊢
 have hr2 : Kd.R (Kd.int .i64) 3 (W1.alloc (.cells #[.int .i64 2] 3)) w.heap.size (fun _ => True) (.slice (some ⟨w.heap.size + 1, 0, none⟩) 1 1) [2] := by
  rw [← hz1]
  exact ⟨fun _ _ => trivial, [.int .i64 2], World.ownsRow_lit (base := w.heap.size) (e := 3) (size := 1) W1 #[.int .i64 2] 1 (by omega) (by decide) rfl, Reps.one (show Kd.M (Kd.int .i64) _ _ _ 2 [.int .i64 2] from rfl) (Reps.none _ _)⟩
 replace hr1 := Kd.R_alloc hr1 (.cells #[.int .i64 2] 3)
 replace hb1 := below_alloc hb1 (.cells #[.int .i64 2] 3)
 have hz2 : (W1.alloc (.cells #[.int .i64 2] 3)).heap.size = w.heap.size + 2 := by simp; omega
 generalize W1.alloc (.cells #[.int .i64 2] 3) = W2 at hr1 hr2 hb1 hz2 ⊢
 clear hz1
 have hr3 : Kd.R k37 37 (W2.alloc (.cells #[.int .i64 1, .int .i64 2, .int .i64 (-1), .int .i64 (-1), .int .i64 (-3), .slice none 0 0, .int .i64 0, .int .i64 0, .int .i64 21, .int .i64 (-1), .int .i64 0, .int .i64 (-1), .int .i64 300, .slice (some ⟨w.heap.size + 1, 0, none⟩) 1 1, .int .i64 0, .int .i64 0, .int .i64 27, .int .i64 (-1), .int .i64 2, .int .i64 (-1), .int .i64 0, .slice none 0 0, .int .i64 0, .int .i64 3, .int .i64 28, .int .i64 (-1), .int .i64 (-1), .int .i64 (-1), .int .i64 0, .slice none 0 0, .int .i64 0, .int .i64 0] 37)) w.heap.size (fun _ => True) (.slice (some ⟨w.heap.size + 2, 0, none⟩) 4 4) wkCode := by
  rw [← hz2]
  exact ⟨fun _ _ => trivial, [.int .i64 1, .int .i64 2, .int .i64 (-1), .int .i64 (-1), .int .i64 (-3), .slice none 0 0, .int .i64 0, .int .i64 0, .int .i64 21, .int .i64 (-1), .int .i64 0, .int .i64 (-1), .int .i64 300, .slice (some ⟨w.heap.size + 1, 0, none⟩) 1 1, .int .i64 0, .int .i64 0, .int .i64 27, .int .i64 (-1), .int .i64 2, .int .i64 (-1), .int .i64 0, .slice none 0 0, .int .i64 0, .int .i64 3, .int .i64 28, .int .i64 (-1), .int .i64 (-1), .int .i64 (-1), .int .i64 0, .slice none 0 0, .int .i64 0, .int .i64 0], World.ownsRow_lit (base := w.heap.size) (e := 37) (size := 8) W2 #[.int .i64 1, .int .i64 2, .int .i64 (-1), .int .i64 (-1), .int .i64 (-3), .slice none 0 0, .int .i64 0, .int .i64 0, .int .i64 21, .int .i64 (-1), .int .i64 0, .int .i64 (-1), .int .i64 300, .slice (some ⟨w.heap.size + 1, 0, none⟩) 1 1, .int .i64 0, .int .i64 0, .int .i64 27, .int .i64 (-1), .int .i64 2, .int .i64 (-1), .int .i64 0, .slice none 0 0, .int .i64 0, .int .i64 3, .int .i64 28, .int .i64 (-1), .int .i64 (-1), .int .i64 (-1), .int .i64 0, .slice none 0 0, .int .i64 0, .int .i64 0] 4 (by omega) (by decide) rfl, (Reps.c8 (k37_mkM _ _ _ (⟨1, 2, (-1), (-1), (-3), [], ⟨0, 0⟩⟩ : S37) (Kd.R_nil _ _ _ _ _)) (Reps.c8 (k37_mkM _ _ _ (⟨21, (-1), 0, (-1), 300, [2], ⟨0, 0⟩⟩ : S37) (Kd.R_apart' (Kd.R_alloc hr2 _) (e' := 37) (fun k hk => by obtain rfl := Option.some.inj hk; exact ⟨_, blk_new W2 _⟩) (by decide))) (Reps.c8 (k37_mkM _ _ _ (⟨27, (-1), 2, (-1), 0, [], ⟨0, 3⟩⟩ : S37) (Kd.R_nil _ _ _ _ _)) (Reps.c8 (k37_mkM _ _ _ (⟨28, (-1), (-1), (-1), 0, [], ⟨0, 0⟩⟩ : S37) (Kd.R_nil _ _ _ _ _)) (Reps.none _ _)))))⟩
 have hr1' := Kd.R_alloc hr1 (.cells #[.int .i64 1, .int .i64 2, .int .i64 (-1), .int .i64 (-1), .int .i64 (-3), .slice none 0 0, .int .i64 0, .int .i64 0, .int .i64 21, .int .i64 (-1), .int .i64 0, .int .i64 (-1), .int .i64 300, .slice (some ⟨w.heap.size + 1, 0, none⟩) 1 1, .int .i64 0, .int .i64 0, .int .i64 27, .int .i64 (-1), .int .i64 2, .int .i64 (-1), .int .i64 0, .slice none 0 0, .int .i64 0, .int .i64 3, .int .i64 28, .int .i64 (-1), .int .i64 (-1), .int .i64 (-1), .int .i64 0, .slice none 0 0, .int .i64 0, .int .i64 0] 37)
 replace hb1 := below_alloc hb1 (.cells #[.int .i64 1, .int .i64 2, .int .i64 (-1), .int .i64 (-1), .int .i64 (-3), .slice none 0 0, .int .i64 0, .int .i64 0, .int .i64 21, .int .i64 (-1), .int .i64 0, .int .i64 (-1), .int .i64 300, .slice (some ⟨w.heap.size + 1, 0, none⟩) 1 1, .int .i64 0, .int .i64 0, .int .i64 27, .int .i64 (-1), .int .i64 2, .int .i64 (-1), .int .i64 0, .slice none 0 0, .int .i64 0, .int .i64 3, .int .i64 28, .int .i64 (-1), .int .i64 (-1), .int .i64 (-1), .int .i64 0, .slice none 0 0, .int .i64 0, .int .i64 0] 37)
 have hz3 : (W2.alloc (.cells #[.int .i64 1, .int .i64 2, .int .i64 (-1), .int .i64 (-1), .int .i64 (-3), .slice none 0 0, .int .i64 0, .int .i64 0, .int .i64 21, .int .i64 (-1), .int .i64 0, .int .i64 (-1), .int .i64 300, .slice (some ⟨w.heap.size + 1, 0, none⟩) 1 1, .int .i64 0, .int .i64 0, .int .i64 27, .int .i64 (-1), .int .i64 2, .int .i64 (-1), .int .i64 0, .slice none 0 0, .int .i64 0, .int .i64 3, .int .i64 28, .int .i64 (-1), .int .i64 (-1), .int .i64 (-1), .int .i64 0, .slice none 0 0, .int .i64 0, .int .i64 0] 37)).heap.size = w.heap.size + 1 + 1 + 1 := by simp; omega
 clear hr1 hr2
 generalize W2.alloc (.cells #[.int .i64 1, .int .i64 2, .int .i64 (-1), .int .i64 (-1), .int .i64 (-3), .slice none 0 0, .int .i64 0, .int .i64 0, .int .i64 21, .int .i64 (-1), .int .i64 0, .int .i64 (-1), .int .i64 300, .slice (some ⟨w.heap.size + 1, 0, none⟩) 1 1, .int .i64 0, .int .i64 0, .int .i64 27, .int .i64 (-1), .int .i64 2, .int .i64 (-1), .int .i64 0, .slice none 0 0, .int .i64 0, .int .i64 3, .int .i64 28, .int .i64 (-1), .int .i64 (-1), .int .i64 (-1), .int .i64 0, .slice none 0 0, .int .i64 0, .int .i64 0] 37) = W3 at hr1' hr3 hb1 hz3 ⊢
 clear hz2
 have hr4 : Kd.R k33 33 (W3.alloc (.cells #[.slice (some ⟨w.heap.size, 0, none⟩) 1 1, .int .i64 3, .slice (some ⟨w.heap.size + 2, 0, none⟩) 4 4] 33)) w.heap.size (fun _ => True) (.slice (some ⟨w.heap.size + 1 + 1 + 1, 0, none⟩) 1 1) [wkBody] := by
  rw [← hz3]
  exact ⟨fun _ _ => trivial, [.slice (some ⟨w.heap.size, 0, none⟩) 1 1, .int .i64 3, .slice (some ⟨w.heap.size + 2, 0, none⟩) 4 4], World.ownsRow_lit (base := w.heap.size) (e := 33) (size := 3) W3 #[.slice (some ⟨w.heap.size, 0, none⟩) 1 1, .int .i64 3, .slice (some ⟨w.heap.size + 2, 0, none⟩) 4 4] 1 (by omega) (by decide) rfl,
   Reps.c3 (k33_mkM _ _ _ wkBody (Kd.R_apart' (Kd.R_alloc hr1' _) (e' := 33) (fun k hk => by obtain rfl := Option.some.inj hk; exact ⟨_, blk_new W3 _⟩) (by decide)) (Kd.R_apart' (Kd.R_alloc hr3 _) (e' := 33) (fun k hk => by obtain rfl := Option.some.inj hk; exact ⟨_, blk_new W3 _⟩) (by decide))) (Reps.none _ _)⟩
 replace hb1 := below_alloc hb1 (.cells #[.slice (some ⟨w.heap.size, 0, none⟩) 1 1, .int .i64 3, .slice (some ⟨w.heap.size + 2, 0, none⟩) 4 4] 33)
 clear hr1' hr3 hz3
 generalize W3.alloc (.cells #[.slice (some ⟨w.heap.size, 0, none⟩) 1 1, .int .i64 3, .slice (some ⟨w.heap.size + 2, 0, none⟩) 4 4] 33) = W4 at hr4 hb1 ⊢
 obtain ⟨A4, c4, e4, hl4, hC4⟩ := Kd.R_reads hr4
 injection e4 with e4 e6 e5
 subst e4
 subst e5
 clear e6
 have HC := Aside0.mk hC4
 have HL := Aside0.mk hl4
 have HB := Aside0.mk hb1
 clear hr4 hb1 hC4 hl4
 go_wp2_with fail
 refine (listing_Text.calls 60 _ _ [wkBody] wkText _ HC.out HL.out wk_1).mono ?_
 rintro e w1 ⟨rfl, hb5⟩
 have HB1 := Aside0.mk (below_step HB.out hb5)
 have HC1 := Aside0.mk (Kd.C_below HC.out hb5)
 clear hb5 HB HC
 go_wp2_with fail
 refine (listing_Read.calls 60 wkText [wkBody] 0 0 _ wk_2).mono ?_
 rintro e w2 ⟨v2, rfl, hr2, hb5⟩
 obtain ⟨A5, c5, e5, hl5, hC5⟩ := Kd.R_reads hr2
 subst e5
 have hb6 := below_alloc (Below.refl w2.heap.size w2) (.cells #[.int .i64 0, .int .i64 0] 26)
 have HB2 := Aside0.mk (below_step (below_step HB1.out hb5) hb6)
 have HC2 := Aside0.mk (Kd.C_below (Kd.C_below HC1.out hb5) hb6)
 have HM2 := Aside0.mk (Kd.C_below hC5 hb6)
 have HML := Aside0.mk hl5
 have HE2 := Aside0.mk (blk_new w2 (.cells #[.int .i64 0, .int .i64 0] 26))
 clear hb5 hb6 hr2 hC5 hl5 HB1 HC1
 go_upto_region 4 with (fail)
 generalize hw2 : w2 = w2_ at *
 generalize w2_.alloc (.cells #[.int .i64 0, .int .i64 0] 26) = W5 at HB2 HC2 HM2 HE2 ⊢
 clear hw2
 go_wp2_with fail
 refine (listing_Read.calls 60 wkBad [] 2 14 _ wk_3).mono ?_
 rintro e w3 ⟨v3, rfl, -, hb5⟩
 have hb6 := below_alloc (Below.refl w3.heap.size w3) (.cells #[.int .i64 2, .int .i64 14] 26)
 have HB3 := Aside0.mk (below_step (below_step HB2.out hb5) hb6)
 have HC3 := Aside0.mk (Kd.C_below (Kd.C_below HC2.out hb5) hb6)
 have HM3 := Aside0.mk (Kd.C_below (Kd.C_below HM2.out hb5) hb6)
 have HE3 := Aside0.mk (blk_below (blk_below HE2.out hb5) hb6)
 have HF3 := Aside0.mk (blk_new w3 (.cells #[.int .i64 2, .int .i64 14] 26))
 clear hb5 hb6 HB2 HC2 HM2 HE2
 go_upto_region 5 with (fail)
 generalize hw3 : w3 = w3_ at *
 generalize w3_.alloc (.cells #[.int .i64 2, .int .i64 14] 26) = W6 at HB3 HC3 HM3 HE3 HF3 ⊢
 clear hw3
 have x0 := blk_cell HE3.out 0
 have x1 := blk_cell HE3.out 1
 have g1 : (wkText.toList == ([98, 111, 100, 121, 32, 40, 115, 49, 41, 32, 51, 32, 123, 10, 32, 32, 99, 111, 110, 115, 116, 32, 115, 50, 32, 45, 51, 10, 32, 32, 99, 97, 108, 108, 32, 95, 32, 102, 48, 32, 51, 48, 48, 32, 40, 115, 50, 41, 10, 32, 32, 105, 102, 32, 115, 50, 32, 64, 48, 32, 64, 51, 10, 32, 32, 114, 101, 116, 32, 95, 10, 125, 10] : List UInt8)) = true := by decide +kernel
 go_wp2_with fail
 refine (r32_Same.calls _ _ [wkBody] _ _ [wkBody] true _ HC3.out HL.out HM3.out HML.out wk_4).mono ?_
 rintro e w4 ⟨rfl, hb5⟩
 have HB4 := Aside0.mk (below_step HB3.out hb5)
 have HC4 := Aside0.mk (Kd.C_below HC3.out hb5)
 have hf := blk_below HF3.out hb5
 have y0 := blk_cell hf 0
 have y1 := blk_cell hf 1
 clear hb5 HB3 HC3 hf x0 x1 g1
 go_wp2_with fail
 refine (listing_Word.calls 30 _ _ wk_5).mono ?_
 rintro e w5 ⟨rfl, hb5⟩
 have HB5 := Aside0.mk (below_step HB4.out hb5)
 have HC5 := Aside0.mk (Kd.C_below HC4.out hb5)
 clear hb5 HB4 HC4
 obtain ⟨ad, B0, d0, B2, d2, e12, u0, u1, u2, -, -, hd2, hg2⟩ := at_T33 HC5.out 0 (by decide) (by decide)
 cases e12
 obtain ⟨ad2, B3, d3, e13, z0, z1, z2, z3, z4, z5, z6, z7, l3, g3⟩ := at_T37 hg2 3 (by decide) (by decide)
 cases e13
 have HL3 := Aside0.mk l3
 have HG3 := Aside0.mk g3
 clear l3 g3 hg2 hd2
 have u2' : w5.cell? ⟨w.heap.size + 1 + 1 + 1, 2, none⟩ = some (.slice (some ad2) 4 d2) := u2
 have z0' : w5.cell? ⟨ad2.block, ad2.off + 24, none⟩ = some (.int .i64 28) := z0
 have z1' : w5.cell? ⟨ad2.block, ad2.off + 24 + 1, none⟩ = some (.int .i64 (-1)) := z1
 have z2' : w5.cell? ⟨ad2.block, ad2.off + 24 + 2, none⟩ = some (.int .i64 (-1)) := z2
 have z3' : w5.cell? ⟨ad2.block, ad2.off + 24 + 3, none⟩ = some (.int .i64 (-1)) := z3
 have z4' : w5.cell? ⟨ad2.block, ad2.off + 24 + 4, none⟩ = some (.int .i64 0) := z4
 have z5' : w5.cell? ⟨ad2.block, ad2.off + 24 + 5, none⟩ = some (.slice B3 0 d3) := z5
 have z6' : w5.cell? ⟨ad2.block, ad2.off + 24 + 6, none⟩ = some (.int .i64 0) := z6
 have z7' : w5.cell? ⟨ad2.block, ad2.off + 24 + 7, none⟩ = some (.int .i64 0) := z7
 clear u0 u1 u2 z0 z1 z2 z3 z4 z5 z6 z7
 go_wp2_with fail
 refine (listing_Inst.calls 60 28 (-1) (-1) (-1) 0 B3 d3 [] 0 0 _ _ HG3.out HL3.out wk_6).mono ?_
 rintro e w6 ⟨rfl, hb5⟩
 have HB6 := Aside0.mk (below_step HB5.out hb5)
 clear hb5
 go_wp2
 go_ret
 exact ⟨rfl, HB6.out⟩
end Go.Proofs.Ytkgjbdbhpohkiaa.PLi
end
-- from YtkgjbdbhpohkiaaHPiecesR
section
namespace Go.Proofs.Ytkgjbdbhpohkiaa.PLi
open Go.RowKit Go.Proofs.YtkgjbdbhpohkiaaW.PrintWords Go.Proofs.YtkgjbdbhpohkiaaW.PrintLast Go.Proofs.YtkgjbdbhpohkiaaW.PrintMore
set_option linter.unusedVariables false
set_option linter.unusedSimpArgs false
def piecesS (op : Int) : ByteArray := if op = 1 then (⟨#[100, 119]⟩ : ByteArray) else if op = 2 ∨ op = 3 ∨ op = 4 ∨ op = 5 ∨ op = 6 ∨ op = 7 ∨ op = 9 then (⟨#[100, 97, 98]⟩ : ByteArray) else if op = 8 then (⟨#[100]⟩ : ByteArray) else if op = 10 then (⟨#[100, 115]⟩ : ByteArray) else if op = 11 ∨ op = 12 ∨ op = 15 then (⟨#[100, 97, 115]⟩ : ByteArray) else if op = 13 ∨ op = 14 then (⟨#[97, 98, 115]⟩ : ByteArray) else if op = 16 ∨ op = 17 ∨ op = 30 then (⟨#[100, 97]⟩ : ByteArray) else if op = 18 ∨ op = 19 then (⟨#[97, 98]⟩ : ByteArray) else if op = 21 then (⟨#[100, 97, 115, 108]⟩ : ByteArray) else if op = 22 ∨ op = 25 ∨ op = 28 then (⟨#[97]⟩ : ByteArray) else if op = 23 ∨ op = 29 then (⟨#[115]⟩ : ByteArray) else if op = 26 then (⟨#[111]⟩ : ByteArray) else if op = 27 then (⟨#[97, 116]⟩ : ByteArray) else (⟨#[]⟩ : ByteArray)
def r33_Pieces.f (a0 : Int) : Option ByteArray := some (piecesS a0)
def PiecesRPost (w : World) (s : ByteArray) (e : Ending) (w' : World) : Prop := e = .returned (.string s) ∧ Drawn0 w w'
theorem piecesR_1 (w : World) : Calls Try.prog 29 #[.int .i64 1] w (PiecesRPost w (⟨#[100, 119]⟩ : ByteArray)) := by
 go_enter Try.func29, Try.ntmps29
 go_wp2
 go_ret
 exact ⟨rfl, Drawn0.refl _⟩
theorem piecesR_2 (w : World) : Calls Try.prog 29 #[.int .i64 2] w (PiecesRPost w (⟨#[100, 97, 98]⟩ : ByteArray)) := by
 go_enter Try.func29, Try.ntmps29
 go_wp2
 go_ret
 exact ⟨rfl, Drawn0.refl _⟩
theorem piecesR_3 (w : World) : Calls Try.prog 29 #[.int .i64 3] w (PiecesRPost w (⟨#[100, 97, 98]⟩ : ByteArray)) := by
 go_enter Try.func29, Try.ntmps29
 go_wp2
 go_ret
 exact ⟨rfl, Drawn0.refl _⟩
theorem piecesR_4 (w : World) : Calls Try.prog 29 #[.int .i64 4] w (PiecesRPost w (⟨#[100, 97, 98]⟩ : ByteArray)) := by
 go_enter Try.func29, Try.ntmps29
 go_wp2
 go_ret
 exact ⟨rfl, Drawn0.refl _⟩
theorem piecesR_5 (w : World) : Calls Try.prog 29 #[.int .i64 5] w (PiecesRPost w (⟨#[100, 97, 98]⟩ : ByteArray)) := by
 go_enter Try.func29, Try.ntmps29
 go_wp2
 go_ret
 exact ⟨rfl, Drawn0.refl _⟩
theorem piecesR_6 (w : World) : Calls Try.prog 29 #[.int .i64 6] w (PiecesRPost w (⟨#[100, 97, 98]⟩ : ByteArray)) := by
 go_enter Try.func29, Try.ntmps29
 go_wp2
 go_ret
 exact ⟨rfl, Drawn0.refl _⟩
theorem piecesR_7 (w : World) : Calls Try.prog 29 #[.int .i64 7] w (PiecesRPost w (⟨#[100, 97, 98]⟩ : ByteArray)) := by
 go_enter Try.func29, Try.ntmps29
 go_wp2
 go_ret
 exact ⟨rfl, Drawn0.refl _⟩
theorem piecesR_9 (w : World) : Calls Try.prog 29 #[.int .i64 9] w (PiecesRPost w (⟨#[100, 97, 98]⟩ : ByteArray)) := by
 go_enter Try.func29, Try.ntmps29
 go_wp2
 go_ret
 exact ⟨rfl, Drawn0.refl _⟩
theorem piecesR_8 (w : World) : Calls Try.prog 29 #[.int .i64 8] w (PiecesRPost w (⟨#[100]⟩ : ByteArray)) := by
 go_enter Try.func29, Try.ntmps29
 go_wp2
 go_ret
 exact ⟨rfl, Drawn0.refl _⟩
theorem piecesR_10 (w : World) : Calls Try.prog 29 #[.int .i64 10] w (PiecesRPost w (⟨#[100, 115]⟩ : ByteArray)) := by
 go_enter Try.func29, Try.ntmps29
 go_wp2
 go_ret
 exact ⟨rfl, Drawn0.refl _⟩
theorem piecesR_11 (w : World) : Calls Try.prog 29 #[.int .i64 11] w (PiecesRPost w (⟨#[100, 97, 115]⟩ : ByteArray)) := by
 go_enter Try.func29, Try.ntmps29
 go_wp2
 go_ret
 exact ⟨rfl, Drawn0.refl _⟩
theorem piecesR_12 (w : World) : Calls Try.prog 29 #[.int .i64 12] w (PiecesRPost w (⟨#[100, 97, 115]⟩ : ByteArray)) := by
 go_enter Try.func29, Try.ntmps29
 go_wp2
 go_ret
 exact ⟨rfl, Drawn0.refl _⟩
theorem piecesR_15 (w : World) : Calls Try.prog 29 #[.int .i64 15] w (PiecesRPost w (⟨#[100, 97, 115]⟩ : ByteArray)) := by
 go_enter Try.func29, Try.ntmps29
 go_wp2
 go_ret
 exact ⟨rfl, Drawn0.refl _⟩
theorem piecesR_13 (w : World) : Calls Try.prog 29 #[.int .i64 13] w (PiecesRPost w (⟨#[97, 98, 115]⟩ : ByteArray)) := by
 go_enter Try.func29, Try.ntmps29
 go_wp2
 go_ret
 exact ⟨rfl, Drawn0.refl _⟩
theorem piecesR_14 (w : World) : Calls Try.prog 29 #[.int .i64 14] w (PiecesRPost w (⟨#[97, 98, 115]⟩ : ByteArray)) := by
 go_enter Try.func29, Try.ntmps29
 go_wp2
 go_ret
 exact ⟨rfl, Drawn0.refl _⟩
theorem piecesR_16 (w : World) : Calls Try.prog 29 #[.int .i64 16] w (PiecesRPost w (⟨#[100, 97]⟩ : ByteArray)) := by
 go_enter Try.func29, Try.ntmps29
 go_wp2
 go_ret
 exact ⟨rfl, Drawn0.refl _⟩
theorem piecesR_17 (w : World) : Calls Try.prog 29 #[.int .i64 17] w (PiecesRPost w (⟨#[100, 97]⟩ : ByteArray)) := by
 go_enter Try.func29, Try.ntmps29
 go_wp2
 go_ret
 exact ⟨rfl, Drawn0.refl _⟩
theorem piecesR_30 (w : World) : Calls Try.prog 29 #[.int .i64 30] w (PiecesRPost w (⟨#[100, 97]⟩ : ByteArray)) := by
 go_enter Try.func29, Try.ntmps29
 go_wp2
 go_ret
 exact ⟨rfl, Drawn0.refl _⟩
theorem piecesR_18 (w : World) : Calls Try.prog 29 #[.int .i64 18] w (PiecesRPost w (⟨#[97, 98]⟩ : ByteArray)) := by
 go_enter Try.func29, Try.ntmps29
 go_wp2
 go_ret
 exact ⟨rfl, Drawn0.refl _⟩
theorem piecesR_19 (w : World) : Calls Try.prog 29 #[.int .i64 19] w (PiecesRPost w (⟨#[97, 98]⟩ : ByteArray)) := by
 go_enter Try.func29, Try.ntmps29
 go_wp2
 go_ret
 exact ⟨rfl, Drawn0.refl _⟩
theorem piecesR_21 (w : World) : Calls Try.prog 29 #[.int .i64 21] w (PiecesRPost w (⟨#[100, 97, 115, 108]⟩ : ByteArray)) := by
 go_enter Try.func29, Try.ntmps29
 go_wp2
 go_ret
 exact ⟨rfl, Drawn0.refl _⟩
theorem piecesR_22 (w : World) : Calls Try.prog 29 #[.int .i64 22] w (PiecesRPost w (⟨#[97]⟩ : ByteArray)) := by
 go_enter Try.func29, Try.ntmps29
 go_wp2
 go_ret
 exact ⟨rfl, Drawn0.refl _⟩
theorem piecesR_25 (w : World) : Calls Try.prog 29 #[.int .i64 25] w (PiecesRPost w (⟨#[97]⟩ : ByteArray)) := by
 go_enter Try.func29, Try.ntmps29
 go_wp2
 go_ret
 exact ⟨rfl, Drawn0.refl _⟩
theorem piecesR_28 (w : World) : Calls Try.prog 29 #[.int .i64 28] w (PiecesRPost w (⟨#[97]⟩ : ByteArray)) := by
 go_enter Try.func29, Try.ntmps29
 go_wp2
 go_ret
 exact ⟨rfl, Drawn0.refl _⟩
theorem piecesR_23 (w : World) : Calls Try.prog 29 #[.int .i64 23] w (PiecesRPost w (⟨#[115]⟩ : ByteArray)) := by
 go_enter Try.func29, Try.ntmps29
 go_wp2
 go_ret
 exact ⟨rfl, Drawn0.refl _⟩
theorem piecesR_29 (w : World) : Calls Try.prog 29 #[.int .i64 29] w (PiecesRPost w (⟨#[115]⟩ : ByteArray)) := by
 go_enter Try.func29, Try.ntmps29
 go_wp2
 go_ret
 exact ⟨rfl, Drawn0.refl _⟩
theorem piecesR_26 (w : World) : Calls Try.prog 29 #[.int .i64 26] w (PiecesRPost w (⟨#[111]⟩ : ByteArray)) := by
 go_enter Try.func29, Try.ntmps29
 go_wp2
 go_ret
 exact ⟨rfl, Drawn0.refl _⟩
theorem piecesR_27 (w : World) : Calls Try.prog 29 #[.int .i64 27] w (PiecesRPost w (⟨#[97, 116]⟩ : ByteArray)) := by
 go_enter Try.func29, Try.ntmps29
 go_wp2
 go_ret
 exact ⟨rfl, Drawn0.refl _⟩
theorem piecesR_none (n : Int) (w : World) (h : ¬ (n = 1 ∨ n = 2 ∨ n = 3 ∨ n = 4 ∨ n = 5 ∨ n = 6 ∨ n = 7 ∨ n = 8 ∨ n = 9 ∨ n = 10 ∨ n = 11 ∨ n = 12 ∨ n = 13 ∨ n = 14 ∨ n = 15 ∨ n = 16 ∨ n = 17 ∨ n = 18 ∨ n = 19 ∨ n = 21 ∨ n = 22 ∨ n = 23 ∨ n = 25 ∨ n = 26 ∨ n = 27 ∨ n = 28 ∨ n = 29 ∨ n = 30)) : Calls Try.prog 29 #[.int .i64 n] w (PiecesRPost w (⟨#[]⟩ : ByteArray)) := by
 simp only [not_or] at h
 obtain ⟨h1, h2, h3, h4, h5, h6, h7, h8, h9, h10, h11, h12, h13, h14, h15, h16, h17, h18, h19, h21, h22, h23, h25, h26, h27, h28, h29, h30⟩ := h
 have b1 : (n == 1) = false := beq_eq_false_iff_ne.mpr h1
 have b2 : (n == 2) = false := beq_eq_false_iff_ne.mpr h2
 have b3 : (n == 3) = false := beq_eq_false_iff_ne.mpr h3
 have b4 : (n == 4) = false := beq_eq_false_iff_ne.mpr h4
 have b5 : (n == 5) = false := beq_eq_false_iff_ne.mpr h5
 have b6 : (n == 6) = false := beq_eq_false_iff_ne.mpr h6
 have b7 : (n == 7) = false := beq_eq_false_iff_ne.mpr h7
 have b8 : (n == 8) = false := beq_eq_false_iff_ne.mpr h8
 have b9 : (n == 9) = false := beq_eq_false_iff_ne.mpr h9
 have b10 : (n == 10) = false := beq_eq_false_iff_ne.mpr h10
 have b11 : (n == 11) = false := beq_eq_false_iff_ne.mpr h11
 have b12 : (n == 12) = false := beq_eq_false_iff_ne.mpr h12
 have b13 : (n == 13) = false := beq_eq_false_iff_ne.mpr h13
 have b14 : (n == 14) = false := beq_eq_false_iff_ne.mpr h14
 have b15 : (n == 15) = false := beq_eq_false_iff_ne.mpr h15
 have b16 : (n == 16) = false := beq_eq_false_iff_ne.mpr h16
 have b17 : (n == 17) = false := beq_eq_false_iff_ne.mpr h17
 have b18 : (n == 18) = false := beq_eq_false_iff_ne.mpr h18
 have b19 : (n == 19) = false := beq_eq_false_iff_ne.mpr h19
 have b21 : (n == 21) = false := beq_eq_false_iff_ne.mpr h21
 have b22 : (n == 22) = false := beq_eq_false_iff_ne.mpr h22
 have b23 : (n == 23) = false := beq_eq_false_iff_ne.mpr h23
 have b25 : (n == 25) = false := beq_eq_false_iff_ne.mpr h25
 have b26 : (n == 26) = false := beq_eq_false_iff_ne.mpr h26
 have b27 : (n == 27) = false := beq_eq_false_iff_ne.mpr h27
 have b28 : (n == 28) = false := beq_eq_false_iff_ne.mpr h28
 have b29 : (n == 29) = false := beq_eq_false_iff_ne.mpr h29
 have b30 : (n == 30) = false := beq_eq_false_iff_ne.mpr h30
 clear h1 h2 h3 h4 h5 h6 h7 h8 h9 h10 h11 h12 h13 h14 h15 h16 h17 h18 h19 h21 h22 h23 h25 h26 h27 h28 h29 h30
 go_enter Try.func29, Try.ntmps29
 go_wp2
 go_ret
 exact ⟨rfl, Drawn0.refl _⟩
theorem r33_Pieces.calls (a0 : Int) (r : ByteArray) (w : World) (h : r33_Pieces.f a0 = some r) :
  Calls Try.prog 29 #[.int .i64 a0] w fun e w' => e = .returned (.string r) ∧ Drawn0 w w' := by
 obtain rfl := Option.some.inj h
 show Calls Try.prog 29 #[.int .i64 a0] w (PiecesRPost w (piecesS a0))
 by_cases h : a0 = 1 ∨ a0 = 2 ∨ a0 = 3 ∨ a0 = 4 ∨ a0 = 5 ∨ a0 = 6 ∨ a0 = 7 ∨ a0 = 8 ∨ a0 = 9 ∨ a0 = 10 ∨ a0 = 11 ∨ a0 = 12 ∨ a0 = 13 ∨ a0 = 14 ∨ a0 = 15 ∨ a0 = 16 ∨ a0 = 17 ∨ a0 = 18 ∨ a0 = 19 ∨ a0 = 21 ∨ a0 = 22 ∨ a0 = 23 ∨ a0 = 25 ∨ a0 = 26 ∨ a0 = 27 ∨ a0 = 28 ∨ a0 = 29 ∨ a0 = 30
 ·rcases h with rfl | rfl | rfl | rfl | rfl | rfl | rfl | rfl | rfl | rfl | rfl | rfl | rfl | rfl | rfl | rfl | rfl | rfl | rfl | rfl | rfl | rfl | rfl | rfl | rfl | rfl | rfl | rfl
  ·exact piecesR_1 w
  ·exact piecesR_2 w
  ·exact piecesR_3 w
  ·exact piecesR_4 w
  ·exact piecesR_5 w
  ·exact piecesR_6 w
  ·exact piecesR_7 w
  ·exact piecesR_8 w
  ·exact piecesR_9 w
  ·exact piecesR_10 w
  ·exact piecesR_11 w
  ·exact piecesR_12 w
  ·exact piecesR_13 w
  ·exact piecesR_14 w
  ·exact piecesR_15 w
  ·exact piecesR_16 w
  ·exact piecesR_17 w
  ·exact piecesR_18 w
  ·exact piecesR_19 w
  ·exact piecesR_21 w
  ·exact piecesR_22 w
  ·exact piecesR_23 w
  ·exact piecesR_25 w
  ·exact piecesR_26 w
  ·exact piecesR_27 w
  ·exact piecesR_28 w
  ·exact piecesR_29 w
  ·exact piecesR_30 w
 ·have e : piecesS a0 = (⟨#[]⟩ : ByteArray) := by
   unfold piecesS
   simp only [not_or] at h
   simp [h]
  rw [e]
  exact piecesR_none a0 w h
end Go.Proofs.Ytkgjbdbhpohkiaa.PLi
end
