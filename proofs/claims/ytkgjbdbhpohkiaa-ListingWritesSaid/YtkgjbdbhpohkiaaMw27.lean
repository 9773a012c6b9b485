import Derived.Test.YtkgjbdbhpohkiaaMw2
import Derived.Test.YtkgjbdbhpohkiaaMw26
import Derived.Test.YtkgjbdbhpohkiaaMw22
import Derived.Test.YtkgjbdbhpohkiaaMw5
-- from YtkgjbdbhpohkiaaPLix19
section
namespace Go.Proofs.Ytkgjbdbhpohkiaa.PLi
open Go.RowKit Go.Proofs.YtkgjbdbhpohkiaaW.PrintWords Go.Proofs.YtkgjbdbhpohkiaaW.PrintLast Go.Proofs.YtkgjbdbhpohkiaaW.PrintMore Go.Proofs.Ytkgjbdbhpohkiaa.Zip
attribute [local go_sem] max2_int min2_int max_two min_two max_three min_three max_four min_four   -- for this text's walks alone
set_option linter.unusedVariables false
set_option linter.unusedSimpArgs false
mutual
def turntableref37_Inst.l0 : Nat → ByteArray → ByteArray → Int → Int → Int → Int → Int → Int → List Int → Int → Int → Option (ByteArray)
 | 0, _, _, _, _, _, _, _, _, _, _, _ => none
 | k + 1, x3, x4, x5, x219000, x219001, x219002, x219003, x219004, x219005, x219006, x219007 => if x5 < (x4.size : Int) then (if 0 ≤ x5 then (if (bt x4 x5) = 100 then (if x3.size + 1 ≤ 9223372036854775807 then ((turntableref37_slot.f k x219001).bind fun t221 => (if (x3 ++ (⟨#[32]⟩ : ByteArray)).size + t221.size ≤ 9223372036854775807 then (turntableref37_Inst.l0 k ((x3 ++ (⟨#[32]⟩ : ByteArray)) ++ t221) x4 (wrap64 (x5 + 1)) x219000 x219001 x219002 x219003 x219004 x219005 x219006 x219007) else (none))) else (none)) else (if (bt x4 x5) = 97 then (if x219000 = 21 then (if x3.size + 2 ≤ 9223372036854775807 then ((turntableref37_small.f k x219002).bind fun t222 => (if (x3 ++ (⟨#[32, 102]⟩ : ByteArray)).size + t222.size ≤ 9223372036854775807 then (turntableref37_Inst.l0 k ((x3 ++ (⟨#[32, 102]⟩ : ByteArray)) ++ t222) x4 (wrap64 (x5 + 1)) x219000 x219001 x219002 x219003 x219004 x219005 x219006 x219007) else (none))) else (none)) else (if x3.size + 1 ≤ 9223372036854775807 then ((turntableref37_slot.f k x219002).bind fun t223 => (if (x3 ++ (⟨#[32]⟩ : ByteArray)).size + t223.size ≤ 9223372036854775807 then (turntableref37_Inst.l0 k ((x3 ++ (⟨#[32]⟩ : ByteArray)) ++ t223) x4 (wrap64 (x5 + 1)) x219000 x219001 x219002 x219003 x219004 x219005 x219006 x219007) else (none))) else (none))) else (if (bt x4 x5) = 98 then (if x3.size + 1 ≤ 9223372036854775807 then ((turntableref37_slot.f k x219003).bind fun t224 => (if (x3 ++ (⟨#[32]⟩ : ByteArray)).size + t224.size ≤ 9223372036854775807 then (turntableref37_Inst.l0 k ((x3 ++ (⟨#[32]⟩ : ByteArray)) ++ t224) x4 (wrap64 (x5 + 1)) x219000 x219001 x219002 x219003 x219004 x219005 x219006 x219007) else (none))) else (none)) else (if (bt x4 x5) = 115 then (turntableref37_Inst.j1 k x3 x4 x5 (bt x4 x5) ((bt x4 x5) == 115) x219000 x219001 x219002 x219003 x219004 x219005 x219006 x219007) else (turntableref37_Inst.j1 k x3 x4 x5 (bt x4 x5) ((bt x4 x5) == 119) x219000 x219001 x219002 x219003 x219004 x219005 x219006 x219007))))) else (none)) else (some x3)
def turntableref37_Inst.j1 : Nat → ByteArray → ByteArray → Int → Int → Bool → Int → Int → Int → Int → Int → List Int → Int → Int → Option (ByteArray)
 | 0, _, _, _, _, _, _, _, _, _, _, _, _, _ => none
 | k + 1, x3, x4, x5, x20, x54, x219000, x219001, x219002, x219003, x219004, x219005, x219006, x219007 => if x54 = true then (if x3.size + 1 ≤ 9223372036854775807 then ((turntableref01_Print.f k x219004).bind fun t225 => (if (x3 ++ (⟨#[32]⟩ : ByteArray)).size + t225.size ≤ 9223372036854775807 then (turntableref37_Inst.l0 k ((x3 ++ (⟨#[32]⟩ : ByteArray)) ++ t225) x4 (wrap64 (x5 + 1)) x219000 x219001 x219002 x219003 x219004 x219005 x219006 x219007) else (none))) else (none)) else (if x20 = 108 then (if x3.size + 1 ≤ 9223372036854775807 then ((turntableref37_list.f k x219005).bind fun t226 => (if (x3 ++ (⟨#[32]⟩ : ByteArray)).size + t226.size ≤ 9223372036854775807 then (turntableref37_Inst.l0 k ((x3 ++ (⟨#[32]⟩ : ByteArray)) ++ t226) x4 (wrap64 (x5 + 1)) x219000 x219001 x219002 x219003 x219004 x219005 x219006 x219007) else (none))) else (none)) else (if x20 = 111 then (if x3.size + 2 ≤ 9223372036854775807 then ((turntableref37_small.f k x219006).bind fun t227 => (if (x3 ++ (⟨#[32, 64]⟩ : ByteArray)).size + t227.size ≤ 9223372036854775807 then (turntableref37_Inst.l0 k ((x3 ++ (⟨#[32, 64]⟩ : ByteArray)) ++ t227) x4 (wrap64 (x5 + 1)) x219000 x219001 x219002 x219003 x219004 x219005 x219006 x219007) else (none))) else (none)) else (if x20 = 116 then (if x3.size + 2 ≤ 9223372036854775807 then ((turntableref37_small.f k x219006).bind fun t228 => (if (x3 ++ (⟨#[32, 64]⟩ : ByteArray)).size + t228.size ≤ 9223372036854775807 then (if ((x3 ++ (⟨#[32, 64]⟩ : ByteArray)) ++ t228).size + 2 ≤ 9223372036854775807 then ((turntableref37_small.f k x219007).bind fun t229 => (if (((x3 ++ (⟨#[32, 64]⟩ : ByteArray)) ++ t228) ++ (⟨#[32, 64]⟩ : ByteArray)).size + t229.size ≤ 9223372036854775807 then (turntableref37_Inst.l0 k ((((x3 ++ (⟨#[32, 64]⟩ : ByteArray)) ++ t228) ++ (⟨#[32, 64]⟩ : ByteArray)) ++ t229) x4 (wrap64 (x5 + 1)) x219000 x219001 x219002 x219003 x219004 x219005 x219006 x219007) else (none))) else (none)) else (none))) else (none)) else (turntableref37_Inst.l0 k x3 x4 (wrap64 (x5 + 1)) x219000 x219001 x219002 x219003 x219004 x219005 x219006 x219007))))
end
def turntableref37_Inst.f (k : Nat) (a0_0 : Int) (a0_1 : Int) (a0_2 : Int) (a0_3 : Int) (a0_4 : Int) (l0_5 : List Int) (a0_6 : Int) (a0_7 : Int) : Option (ByteArray) := (turntableref37_Word.f a0_0).bind fun t219 => ((turntableref33_Pieces.f a0_0).bind fun t220 => (turntableref37_Inst.l0 k t219 t220 0 a0_0 a0_1 a0_2 a0_3 a0_4 l0_5 a0_6 a0_7))
theorem turntableref37_Inst.mono_l : ∀ k, (∀ y0 y1 y2 y3 y4 y5 y6 y7 y8 y9 y10, LeO (turntableref37_Inst.l0 k y0 y1 y2 y3 y4 y5 y6 y7 y8 y9 y10) (turntableref37_Inst.l0 (k + 1) y0 y1 y2 y3 y4 y5 y6 y7 y8 y9 y10)) ∧ (∀ y0 y1 y2 y3 y4 y5 y6 y7 y8 y9 y10 y11 y12, LeO (turntableref37_Inst.j1 k y0 y1 y2 y3 y4 y5 y6 y7 y8 y9 y10 y11 y12) (turntableref37_Inst.j1 (k + 1) y0 y1 y2 y3 y4 y5 y6 y7 y8 y9 y10 y11 y12))
 | 0 => ⟨fun _ _ _ _ _ _ _ _ _ _ _ r h => by simp [turntableref37_Inst.l0] at h, fun _ _ _ _ _ _ _ _ _ _ _ _ _ r h => by simp [turntableref37_Inst.j1] at h⟩
 | k + 1 => by
  obtain ⟨ih0, ih1⟩ := turntableref37_Inst.mono_l k
  refine ⟨?_, ?_⟩
  ·intro y0 y1 y2 y3 y4 y5 y6 y7 y8 y9 y10
   unfold turntableref37_Inst.l0
   repeat' first
   | (with_reducible exact ih0 _ _ _ _ _ _ _ _ _ _ _)
   | (with_reducible exact ih1 _ _ _ _ _ _ _ _ _ _ _ _ _)
   | (with_reducible exact turntableref01_Print.mono _ _)
   | (with_reducible exact turntableref37_list.mono _ _)
   | (with_reducible exact turntableref37_slot.mono _ _)
   | (with_reducible exact turntableref37_small.mono _ _)
   | (with_reducible exact LeO.refl _)
   | (with_reducible exact LeO.none _)
   | (with_reducible refine LeO.ite ?_ ?_)
   | (with_reducible refine LeO.bind ?_ (fun _ => ?_))
   | exact ih0 _ _ _ _ _ _ _ _ _ _ _
   | exact ih1 _ _ _ _ _ _ _ _ _ _ _ _ _
   | exact turntableref01_Print.mono _ _
   | exact turntableref37_list.mono _ _
   | exact turntableref37_slot.mono _ _
   | exact turntableref37_small.mono _ _
   | exact LeO.none _
   | refine LeO.ite ?_ ?_
   | refine LeO.bind ?_ (fun _ => ?_)
  ·intro y0 y1 y2 y3 y4 y5 y6 y7 y8 y9 y10 y11 y12
   unfold turntableref37_Inst.j1
   repeat' first
   | (with_reducible exact ih0 _ _ _ _ _ _ _ _ _ _ _)
   | (with_reducible exact ih1 _ _ _ _ _ _ _ _ _ _ _ _ _)
   | (with_reducible exact turntableref01_Print.mono _ _)
   | (with_reducible exact turntableref37_list.mono _ _)
   | (with_reducible exact turntableref37_slot.mono _ _)
   | (with_reducible exact turntableref37_small.mono _ _)
   | (with_reducible exact LeO.refl _)
   | (with_reducible exact LeO.none _)
   | (with_reducible refine LeO.ite ?_ ?_)
   | (with_reducible refine LeO.bind ?_ (fun _ => ?_))
   | exact ih0 _ _ _ _ _ _ _ _ _ _ _
   | exact ih1 _ _ _ _ _ _ _ _ _ _ _ _ _
   | exact turntableref01_Print.mono _ _
   | exact turntableref37_list.mono _ _
   | exact turntableref37_slot.mono _ _
   | exact turntableref37_small.mono _ _
   | exact LeO.none _
   | refine LeO.ite ?_ ?_
   | refine LeO.bind ?_ (fun _ => ?_)
theorem turntableref37_Inst.mono : ∀ a0 a1 a2 a3 a4 a5 a6 a7 k, LeO (turntableref37_Inst.f k a0 a1 a2 a3 a4 a5 a6 a7) (turntableref37_Inst.f (k + 1) a0 a1 a2 a3 a4 a5 a6 a7) := by
 intro a0 a1 a2 a3 a4 a5 a6 a7 k
 obtain ⟨ih0, ih1⟩ := turntableref37_Inst.mono_l k
 unfold turntableref37_Inst.f
 repeat' first
   | (with_reducible exact ih0 _ _ _ _ _ _ _ _ _ _ _)
   | (with_reducible exact ih1 _ _ _ _ _ _ _ _ _ _ _ _ _)
   | (with_reducible exact turntableref01_Print.mono _ _)
   | (with_reducible exact turntableref37_list.mono _ _)
   | (with_reducible exact turntableref37_slot.mono _ _)
   | (with_reducible exact turntableref37_small.mono _ _)
   | (with_reducible exact LeO.refl _)
   | (with_reducible exact LeO.none _)
   | (with_reducible refine LeO.ite ?_ ?_)
   | (with_reducible refine LeO.bind ?_ (fun _ => ?_))
   | exact ih0 _ _ _ _ _ _ _ _ _ _ _
   | exact ih1 _ _ _ _ _ _ _ _ _ _ _ _ _
   | exact turntableref01_Print.mono _ _
   | exact turntableref37_list.mono _ _
   | exact turntableref37_slot.mono _ _
   | exact turntableref37_small.mono _ _
   | exact LeO.none _
   | refine LeO.ite ?_ ?_
   | refine LeO.bind ?_ (fun _ => ?_)
def turntableref37_Inst.T23 : Bool × List (List Nat × List Nat) := (true, [([], []), ([0], [0]), ([], []), ([2], [2]), ([3], [3]), ([4], [4]), ([1, 5], [1, 5]), ([6], [6]), ([], []), ([8], [8]), ([9], [9]), ([10, 5], [10]), ([7, 11], [7, 11]), ([12, 11, 0, 1, 2, 3, 4, 5, 6, 7, 8, 9, 10, 11, 12], [0, 12])])
def turntableref37_Inst.B23 : List Nat := [0, 1, 0, 4, 12, 28, 63, 127, 0, 256, 768, 1852, 4095, 8191]
theorem turntableref37_Inst.tab23 : rtab .any (opsOf Try.f13 23) = turntableref37_Inst.T23 := by kernel_rfl
theorem turntableref37_Inst.bits23 : waitsOk turntableref37_Inst.T23.2 turntableref37_Inst.B23 = true := by kernel_rfl
set_option maxHeartbeats 8000000 in
set_option maxRecDepth 100000 in
theorem turntableref37_Inst.calls (k : Nat) (a0_0 : Int) (a0_1 : Int) (a0_2 : Int) (a0_3 : Int) (a0_4 : Int) (A0_5 : Option Addr) (c0_5 : Nat) (l0_5 : List Int) (a0_6 : Int) (a0_7 : Int) (r : ByteArray) (w : World) (hr0_5 : Kd.C (Kd.int .i64) w A0_5 l0_5.length l0_5) (hc0_5 : l0_5.length ≤ c0_5) (h : turntableref37_Inst.f k a0_0 a0_1 a0_2 a0_3 a0_4 l0_5 a0_6 a0_7 = some r) :
  Calls Try.prog 13 #[.agg #[.int .i64 a0_0, .int .i64 a0_1, .int .i64 a0_2, .int .i64 a0_3, .int .i64 a0_4, .slice A0_5 l0_5.length c0_5, .int .i64 a0_6, .int .i64 a0_7]] w fun e w' => e = .returned (.string r) ∧ Below w.heap.size w w' := by
 have hu37 := Try.underlying37
 have HR0_5 := Aside0.mk hr0_5
 have HC0_5 := Aside0.mk hc0_5
 clear hr0_5 hc0_5
 have HB := Aside0.mk (Below.refl w.heap.size w)
 have H : ((turntableref37_Word.f a0_0).bind fun t219 => ((turntableref33_Pieces.f a0_0).bind fun t220 => (turntableref37_Inst.l0 k t219 t220 0 a0_0 a0_1 a0_2 a0_3 a0_4 l0_5 a0_6 a0_7))) = some r := h
 clear h
 replace H := Option.bind_eq_some_iff.mp H
 obtain ⟨t219, A20, H⟩ := H
 replace H : ((turntableref33_Pieces.f a0_0).bind fun t220 => (turntableref37_Inst.l0 k t219 t220 0 a0_0 a0_1 a0_2 a0_3 a0_4 l0_5 a0_6 a0_7)) = some r := H
 have A2 := Aside0.mk A20
 clear A20
 replace H := Option.bind_eq_some_iff.mp H
 obtain ⟨t220, A30, H⟩ := H
 replace H : (turntableref37_Inst.l0 k t219 t220 0 a0_0 a0_1 a0_2 a0_3 a0_4 l0_5 a0_6 a0_7) = some r := H
 have A3 := Aside0.mk A30
 clear A30
 have H' := Aside0.mk H
 clear H
 go_enter Try.func13, Try.ntmps13
 go_wp2_with (first | ((with_reducible refine gate_dst (N := 1) rfl ?_); refine box_event ?hg (N := 1) ?hd (cs := #[.int .i64 a0_0, .int .i64 a0_1, .int .i64 a0_2, .int .i64 a0_3, .int .i64 a0_4, .slice A0_5 l0_5.length c0_5, .int .i64 a0_6, .int .i64 a0_7]) (t := 37) ?hr ?_; (case hd => rfl); (case hg => rfl); (case hr => first | (go_simp; done) | (go_simp; rfl)); intro gb218 hg w4 hbox hb; have n0_ := Aside0.mk (below_step (zB HB.out) hb); have n1_ := Aside0.mk (hbox); have n2_ := Aside0.mk ((by rw [hg]; exact (below_size (zB HB.out)) : w.heap.size ≤ gb218)); have n3_ := Aside0.mk ((by rw [hg]; exact (below_size (zB HB.out)) : w.heap.size ≤ gb218)); clear HB; have HB := n0_; have BK218 := n1_; have GW218 := n2_; have GE218 := n3_; clear n0_ n1_ n2_ n3_; clear hb hbox hg; have hcz5_0 : w4.cell? ⟨gb218, 0, none⟩ = some (.int .i64 a0_0) := (blk_cell BK218.out 0).trans rfl; have hcz5_1 : w4.cell? ⟨gb218, 1, none⟩ = some (.int .i64 a0_1) := (blk_cell BK218.out 1).trans rfl; have hcz5_2 : w4.cell? ⟨gb218, 2, none⟩ = some (.int .i64 a0_2) := (blk_cell BK218.out 2).trans rfl; have hcz5_3 : w4.cell? ⟨gb218, 3, none⟩ = some (.int .i64 a0_3) := (blk_cell BK218.out 3).trans rfl; have hcz5_4 : w4.cell? ⟨gb218, 4, none⟩ = some (.int .i64 a0_4) := (blk_cell BK218.out 4).trans rfl; have hcz5_5 : w4.cell? ⟨gb218, 5, none⟩ = some (.slice A0_5 l0_5.length c0_5) := (blk_cell BK218.out 5).trans rfl; have hcz5_6 : w4.cell? ⟨gb218, 6, none⟩ = some (.int .i64 a0_6) := (blk_cell BK218.out 6).trans rfl; have hcz5_7 : w4.cell? ⟨gb218, 7, none⟩ = some (.int .i64 a0_7) := (blk_cell BK218.out 7).trans rfl; have hfz5_0 := blk_frozen BK218.out 0; have hfz5_1 := blk_frozen BK218.out 1; have hfz5_2 := blk_frozen BK218.out 2; have hfz5_3 := blk_frozen BK218.out 3; have hfz5_4 := blk_frozen BK218.out 4; have hfz5_5 := blk_frozen BK218.out 5; have hfz5_6 := blk_frozen BK218.out 6; have hfz5_7 := blk_frozen BK218.out 7) | ((with_reducible refine gate_callee (f := 11) rfl ?_); refine goesL_ (some 8) rfl rfl Try.func11 (by kernel_rfl) rfl #[.int .i64 a0_0] rfl zA ?_; (with_reducible refine (turntableref37_Word.calls a0_0 t219 _ A2.out).mono ?_); rintro e w6 ⟨rfl, hb⟩; refine ⟨_, rfl, ?_⟩; have n0_ := Aside0.mk (blk_below (g := gb218) (o := .cells #[.int .i64 a0_0, .int .i64 a0_1, .int .i64 a0_2, .int .i64 a0_3, .int .i64 a0_4, .slice A0_5 l0_5.length c0_5, .int .i64 a0_6, .int .i64 a0_7] 37 (0, 0)) (zK BK218.out) hb); have n1_ := Aside0.mk (below_step (zC HB.out GE218.out) hb); clear BK218; clear HB; have BK218 := n0_; have HB := n1_; clear n0_ n1_; (try clear hb); (try clear hb2); (try clear hk); (try clear hi); have hcz7_0 : w6.cell? ⟨gb218, 0, none⟩ = some (.int .i64 a0_0) := (blk_cell BK218.out 0).trans rfl; have hcz7_1 : w6.cell? ⟨gb218, 1, none⟩ = some (.int .i64 a0_1) := (blk_cell BK218.out 1).trans rfl; have hcz7_2 : w6.cell? ⟨gb218, 2, none⟩ = some (.int .i64 a0_2) := (blk_cell BK218.out 2).trans rfl; have hcz7_3 : w6.cell? ⟨gb218, 3, none⟩ = some (.int .i64 a0_3) := (blk_cell BK218.out 3).trans rfl; have hcz7_4 : w6.cell? ⟨gb218, 4, none⟩ = some (.int .i64 a0_4) := (blk_cell BK218.out 4).trans rfl; have hcz7_5 : w6.cell? ⟨gb218, 5, none⟩ = some (.slice A0_5 l0_5.length c0_5) := (blk_cell BK218.out 5).trans rfl; have hcz7_6 : w6.cell? ⟨gb218, 6, none⟩ = some (.int .i64 a0_6) := (blk_cell BK218.out 6).trans rfl; have hcz7_7 : w6.cell? ⟨gb218, 7, none⟩ = some (.int .i64 a0_7) := (blk_cell BK218.out 7).trans rfl; have hfz7_0 := blk_frozen BK218.out 0; have hfz7_1 := blk_frozen BK218.out 1; have hfz7_2 := blk_frozen BK218.out 2; have hfz7_3 := blk_frozen BK218.out 3; have hfz7_4 := blk_frozen BK218.out 4; have hfz7_5 := blk_frozen BK218.out 5; have hfz7_6 := blk_frozen BK218.out 6; have hfz7_7 := blk_frozen BK218.out 7) | ((with_reducible refine gate_callee (f := 29) rfl ?_); refine goesL_ (some 11) rfl rfl Try.func29 (by kernel_rfl) rfl #[.int .i64 a0_0] rfl zA ?_; (with_reducible refine (turntableref33_Pieces.calls a0_0 t220 _ A3.out).mono ?_); rintro e w' ⟨rfl, ⟨nd, rfl⟩⟩; refine ⟨_, rfl, ?_⟩))
 go_loopg [3, 5] k (fun kq v3 v5 w' => ∃ (x3_1 : ByteArray) (x5_1 : Int), v3 = .string x3_1 ∧ v5 = .int .i64 x5_1 ∧ Aside0 (turntableref37_Inst.l0 kq x3_1 t220 x5_1 a0_0 a0_1 a0_2 a0_3 a0_4 l0_5 a0_6 a0_7 = some r) ∧ Aside0 (kq ≤ k) ∧ Aside0 (w'.heap[gb218]? = some (.cells #[.int .i64 a0_0, .int .i64 a0_1, .int .i64 a0_2, .int .i64 a0_3, .int .i64 a0_4, (.slice A0_5 l0_5.length c0_5), .int .i64 a0_6, .int .i64 a0_7] 37 (0, 0))) ∧ Aside0 (Below w.heap.size w w'))
 case atStart => exact ⟨(t219), (0), (by first | rfl | (simp; done) | (simp [*]; done)), (by first | rfl | (simp; done) | (simp [*]; done)), H', ⟨Nat.le_refl _⟩, ⟨zK BK218.out⟩, ⟨zC HB.out GE218.out⟩⟩
 case round =>
  clear H'
  try clear c1
  try clear c2
  try clear p2
  try clear hcz5_0
  try clear hcz5_1
  try clear hcz5_2
  try clear hcz5_3
  try clear hcz5_4
  try clear hcz5_5
  try clear hcz5_6
  try clear hcz5_7
  try clear hcz7_0
  try clear hcz7_1
  try clear hcz7_2
  try clear hcz7_3
  try clear hcz7_4
  try clear hcz7_5
  try clear hcz7_6
  try clear hcz7_7
  try clear hfz5_0
  try clear hfz5_1
  try clear hfz5_2
  try clear hfz5_3
  try clear hfz5_4
  try clear hfz5_5
  try clear hfz5_6
  try clear hfz5_7
  try clear hfz7_0
  try clear hfz7_1
  try clear hfz7_2
  try clear hfz7_3
  try clear hfz7_4
  try clear hfz7_5
  try clear hfz7_6
  try clear hfz7_7
  obtain ⟨x3_1, x5_1, rfl, rfl, HA, HK1, BK218, HB⟩ := hrel
  cases gk with
  | zero => exact absurd HA.out (by simp [turntableref37_Inst.l0])
  | succ k1 =>
   have H := HA.out
   clear HA
   simp only [turntableref37_Inst.l0] at H
   by_cases c8 : x5_1 < (t220.size : Int)
   ·rw [if_pos c8] at H
    have c8b0 : decide (x5_1 < (t220.size : Int)) = true := decide_eq_true c8
    clear c8
    by_cases c9 : 0 ≤ x5_1
    ·rw [if_pos c9] at H
     have c9b0 : decide (0 ≤ x5_1) = true := decide_eq_true c9
     clear c9
     by_cases c11 : (bt t220 x5_1) = 100
     ·rw [if_pos c11] at H
      have c11b0 : ((bt t220 x5_1) == 100) = true := beq_iff_eq.mpr c11
      have c11b1 : ((bt t220 x5_1) != 100) = false := bne_eq_false_iff_eq.mpr c11
      clear c11
      by_cases c12 : x3_1.size + 1 ≤ 9223372036854775807
      ·rw [if_pos c12] at H
       have c12b0 := eq_true c12
       have c12b1 : decide (x3_1.size + 1 ≤ 9223372036854775807) = true := decide_eq_true c12
       try have c12b2 : (9223372036854775807 < x3_1.size + 1) = False := eq_false (Nat.not_lt.2 c12)
       replace H := Option.bind_eq_some_iff.mp H
       obtain ⟨t221, A130, H⟩ := H
       replace H : (if (x3_1 ++ (⟨#[32]⟩ : ByteArray)).size + t221.size ≤ 9223372036854775807 then (turntableref37_Inst.l0 k1 ((x3_1 ++ (⟨#[32]⟩ : ByteArray)) ++ t221) t220 (wrap64 (x5_1 + 1)) a0_0 a0_1 a0_2 a0_3 a0_4 l0_5 a0_6 a0_7) else (none)) = some r := H
       have A13 := Aside0.mk A130
       clear A130
       by_cases c14 : (x3_1 ++ (⟨#[32]⟩ : ByteArray)).size + t221.size ≤ 9223372036854775807
       ·rw [if_pos c14] at H
        have c14b0 := eq_true c14
        have c14b1 : decide ((x3_1 ++ (⟨#[32]⟩ : ByteArray)).size + t221.size ≤ 9223372036854775807) = true := decide_eq_true c14
        try have c14b2 : (9223372036854775807 < (x3_1 ++ (⟨#[32]⟩ : ByteArray)).size + t221.size) = False := eq_false (Nat.not_lt.2 c14)
        try (have c14b3 := c14b2; simp only [ByteArray.size_append, show ((⟨#[32]⟩ : ByteArray)).size = 1 from rfl] at c14b3)
        have H' := Aside0.mk H
        clear H
        have p10 : 0 ≤ (x5_1 : Int) := of_decide_eq_true zS
        have q10 : x5_1 < (t220.size : Int) := of_decide_eq_true zS
        have hx10 := bt_at t220 x5_1
        replace p10 := eq_true p10
        replace q10 := eq_true q10
        have hcz15_0 : wr.cell? ⟨gb218, 0, none⟩ = some (.int .i64 a0_0) := (blk_cell BK218.out 0).trans rfl
        have hcz15_1 : wr.cell? ⟨gb218, 1, none⟩ = some (.int .i64 a0_1) := (blk_cell BK218.out 1).trans rfl
        have hcz15_2 : wr.cell? ⟨gb218, 2, none⟩ = some (.int .i64 a0_2) := (blk_cell BK218.out 2).trans rfl
        have hcz15_3 : wr.cell? ⟨gb218, 3, none⟩ = some (.int .i64 a0_3) := (blk_cell BK218.out 3).trans rfl
        have hcz15_4 : wr.cell? ⟨gb218, 4, none⟩ = some (.int .i64 a0_4) := (blk_cell BK218.out 4).trans rfl
        have hcz15_5 : wr.cell? ⟨gb218, 5, none⟩ = some (.slice A0_5 l0_5.length c0_5) := (blk_cell BK218.out 5).trans rfl
        have hcz15_6 : wr.cell? ⟨gb218, 6, none⟩ = some (.int .i64 a0_6) := (blk_cell BK218.out 6).trans rfl
        have hcz15_7 : wr.cell? ⟨gb218, 7, none⟩ = some (.int .i64 a0_7) := (blk_cell BK218.out 7).trans rfl
        have hfz15_0 := blk_frozen BK218.out 0
        have hfz15_1 := blk_frozen BK218.out 1
        have hfz15_2 := blk_frozen BK218.out 2
        have hfz15_3 := blk_frozen BK218.out 3
        have hfz15_4 := blk_frozen BK218.out 4
        have hfz15_5 := blk_frozen BK218.out 5
        have hfz15_6 := blk_frozen BK218.out 6
        have hfz15_7 := blk_frozen BK218.out 7
        go_wp2_with (first | ((with_reducible refine gate_callee (f := 30) rfl ?_); refine goesL_ (some 27) rfl rfl Try.func30 (by kernel_rfl) rfl #[.int .i64 a0_1] rfl zA ?_; (with_reducible refine (turntableref37_slot.calls k1 a0_1 t221 _ A13.out).mono ?_); rintro e w16 ⟨rfl, hb⟩; refine ⟨_, rfl, ?_⟩; have n0_ := Aside0.mk (blk_below (g := gb218) (o := .cells #[.int .i64 a0_0, .int .i64 a0_1, .int .i64 a0_2, .int .i64 a0_3, .int .i64 a0_4, .slice A0_5 l0_5.length c0_5, .int .i64 a0_6, .int .i64 a0_7] 37 (0, 0)) (zK BK218.out) hb); have n1_ := Aside0.mk (below_step (zC HB.out GE218.out) hb); clear BK218; clear HB; have BK218 := n0_; have HB := n1_; clear n0_ n1_; (try clear hb); (try clear hb2); (try clear hk); (try clear hi)))
        go_roundg k1
        case measure => have := HK1.out; omega
        case rel => exact ⟨((x3_1 ++ (⟨#[32]⟩ : ByteArray)) ++ t221), (wrap64 (x5_1 + 1)), (by first | rfl | (simp; done) | (simp [*]; done)), (by first | rfl | (simp; done) | (simp [*]; done)), H', ⟨by have := HK1.out; omega⟩, ⟨zK BK218.out⟩, ⟨zC HB.out GE218.out⟩⟩
       ·rw [if_neg c14] at H
        exact absurd H (by simp)
      ·rw [if_neg c12] at H
       exact absurd H (by simp)
     ·rw [if_neg c11] at H
      have c11b0 : ((bt t220 x5_1) == 100) = false := beq_eq_false_iff_ne.mpr c11
      have c11b1 : ((bt t220 x5_1) != 100) = true := bne_iff_ne.mpr c11
      by_cases c17 : (bt t220 x5_1) = 97
      ·rw [if_pos c17] at H
       have c17b0 : ((bt t220 x5_1) == 97) = true := beq_iff_eq.mpr c17
       have c17b1 : ((bt t220 x5_1) != 97) = false := bne_eq_false_iff_eq.mpr c17
       clear c17
       by_cases c18 : a0_0 = 21
       ·rw [if_pos c18] at H
        have c18b0 : (a0_0 == 21) = true := beq_iff_eq.mpr c18
        have c18b1 : (a0_0 != 21) = false := bne_eq_false_iff_eq.mpr c18
        clear c18
        by_cases c19 : x3_1.size + 2 ≤ 9223372036854775807
        ·rw [if_pos c19] at H
         have c19b0 := eq_true c19
         have c19b1 : decide (x3_1.size + 2 ≤ 9223372036854775807) = true := decide_eq_true c19
         try have c19b2 : (9223372036854775807 < x3_1.size + 2) = False := eq_false (Nat.not_lt.2 c19)
         replace H := Option.bind_eq_some_iff.mp H
         obtain ⟨t222, A200, H⟩ := H
         replace H : (if (x3_1 ++ (⟨#[32, 102]⟩ : ByteArray)).size + t222.size ≤ 9223372036854775807 then (turntableref37_Inst.l0 k1 ((x3_1 ++ (⟨#[32, 102]⟩ : ByteArray)) ++ t222) t220 (wrap64 (x5_1 + 1)) a0_0 a0_1 a0_2 a0_3 a0_4 l0_5 a0_6 a0_7) else (none)) = some r := H
         have A20 := Aside0.mk A200
         clear A200
         by_cases c21 : (x3_1 ++ (⟨#[32, 102]⟩ : ByteArray)).size + t222.size ≤ 9223372036854775807
         ·rw [if_pos c21] at H
          have c21b0 := eq_true c21
          have c21b1 : decide ((x3_1 ++ (⟨#[32, 102]⟩ : ByteArray)).size + t222.size ≤ 9223372036854775807) = true := decide_eq_true c21
          try have c21b2 : (9223372036854775807 < (x3_1 ++ (⟨#[32, 102]⟩ : ByteArray)).size + t222.size) = False := eq_false (Nat.not_lt.2 c21)
          try (have c21b3 := c21b2; simp only [ByteArray.size_append, show ((⟨#[32, 102]⟩ : ByteArray)).size = 2 from rfl] at c21b3)
          have H' := Aside0.mk H
          clear H
          have p10 : 0 ≤ (x5_1 : Int) := of_decide_eq_true zS
          have q10 : x5_1 < (t220.size : Int) := of_decide_eq_true zS
          have hx10 := bt_at t220 x5_1
          replace p10 := eq_true p10
          replace q10 := eq_true q10
          have hcz22_0 : wr.cell? ⟨gb218, 0, none⟩ = some (.int .i64 a0_0) := (blk_cell BK218.out 0).trans rfl
          have hcz22_1 : wr.cell? ⟨gb218, 1, none⟩ = some (.int .i64 a0_1) := (blk_cell BK218.out 1).trans rfl
          have hcz22_2 : wr.cell? ⟨gb218, 2, none⟩ = some (.int .i64 a0_2) := (blk_cell BK218.out 2).trans rfl
          have hcz22_3 : wr.cell? ⟨gb218, 3, none⟩ = some (.int .i64 a0_3) := (blk_cell BK218.out 3).trans rfl
          have hcz22_4 : wr.cell? ⟨gb218, 4, none⟩ = some (.int .i64 a0_4) := (blk_cell BK218.out 4).trans rfl
          have hcz22_5 : wr.cell? ⟨gb218, 5, none⟩ = some (.slice A0_5 l0_5.length c0_5) := (blk_cell BK218.out 5).trans rfl
          have hcz22_6 : wr.cell? ⟨gb218, 6, none⟩ = some (.int .i64 a0_6) := (blk_cell BK218.out 6).trans rfl
          have hcz22_7 : wr.cell? ⟨gb218, 7, none⟩ = some (.int .i64 a0_7) := (blk_cell BK218.out 7).trans rfl
          have hfz22_0 := blk_frozen BK218.out 0
          have hfz22_1 := blk_frozen BK218.out 1
          have hfz22_2 := blk_frozen BK218.out 2
          have hfz22_3 := blk_frozen BK218.out 3
          have hfz22_4 := blk_frozen BK218.out 4
          have hfz22_5 := blk_frozen BK218.out 5
          have hfz22_6 := blk_frozen BK218.out 6
          have hfz22_7 := blk_frozen BK218.out 7
          go_wp2_with (first | ((with_reducible refine gate_callee (f := 31) rfl ?_); refine goesL_ (some 38) rfl rfl Try.func31 (by kernel_rfl) rfl #[.int .i64 a0_2] rfl zA ?_; (with_reducible refine (turntableref37_small.calls k1 a0_2 t222 _ A20.out).mono ?_); rintro e w23 ⟨rfl, hb⟩; refine ⟨_, rfl, ?_⟩; have n0_ := Aside0.mk (blk_below (g := gb218) (o := .cells #[.int .i64 a0_0, .int .i64 a0_1, .int .i64 a0_2, .int .i64 a0_3, .int .i64 a0_4, .slice A0_5 l0_5.length c0_5, .int .i64 a0_6, .int .i64 a0_7] 37 (0, 0)) (zK BK218.out) hb); have n1_ := Aside0.mk (below_step (zC HB.out GE218.out) hb); clear BK218; clear HB; have BK218 := n0_; have HB := n1_; clear n0_ n1_; (try clear hb); (try clear hb2); (try clear hk); (try clear hi)))
          go_roundg k1
          case measure => have := HK1.out; omega
          case rel => exact ⟨((x3_1 ++ (⟨#[32, 102]⟩ : ByteArray)) ++ t222), (wrap64 (x5_1 + 1)), (by first | rfl | (simp; done) | (simp [*]; done)), (by first | rfl | (simp; done) | (simp [*]; done)), H', ⟨by have := HK1.out; omega⟩, ⟨zK BK218.out⟩, ⟨zC HB.out GE218.out⟩⟩
         ·rw [if_neg c21] at H
          exact absurd H (by simp)
        ·rw [if_neg c19] at H
         exact absurd H (by simp)
       ·rw [if_neg c18] at H
        have c18b0 : (a0_0 == 21) = false := beq_eq_false_iff_ne.mpr c18
        have c18b1 : (a0_0 != 21) = true := bne_iff_ne.mpr c18
        by_cases c24 : x3_1.size + 1 ≤ 9223372036854775807
        ·rw [if_pos c24] at H
         have c24b0 := eq_true c24
         have c24b1 : decide (x3_1.size + 1 ≤ 9223372036854775807) = true := decide_eq_true c24
         try have c24b2 : (9223372036854775807 < x3_1.size + 1) = False := eq_false (Nat.not_lt.2 c24)
         replace H := Option.bind_eq_some_iff.mp H
         obtain ⟨t223, A250, H⟩ := H
         replace H : (if (x3_1 ++ (⟨#[32]⟩ : ByteArray)).size + t223.size ≤ 9223372036854775807 then (turntableref37_Inst.l0 k1 ((x3_1 ++ (⟨#[32]⟩ : ByteArray)) ++ t223) t220 (wrap64 (x5_1 + 1)) a0_0 a0_1 a0_2 a0_3 a0_4 l0_5 a0_6 a0_7) else (none)) = some r := H
         have A25 := Aside0.mk A250
         clear A250
         by_cases c26 : (x3_1 ++ (⟨#[32]⟩ : ByteArray)).size + t223.size ≤ 9223372036854775807
         ·rw [if_pos c26] at H
          have c26b0 := eq_true c26
          have c26b1 : decide ((x3_1 ++ (⟨#[32]⟩ : ByteArray)).size + t223.size ≤ 9223372036854775807) = true := decide_eq_true c26
          try have c26b2 : (9223372036854775807 < (x3_1 ++ (⟨#[32]⟩ : ByteArray)).size + t223.size) = False := eq_false (Nat.not_lt.2 c26)
          try (have c26b3 := c26b2; simp only [ByteArray.size_append, show ((⟨#[32]⟩ : ByteArray)).size = 1 from rfl] at c26b3)
          have H' := Aside0.mk H
          clear H
          have p10 : 0 ≤ (x5_1 : Int) := of_decide_eq_true zS
          have q10 : x5_1 < (t220.size : Int) := of_decide_eq_true zS
          have hx10 := bt_at t220 x5_1
          replace p10 := eq_true p10
          replace q10 := eq_true q10
          have hcz27_0 : wr.cell? ⟨gb218, 0, none⟩ = some (.int .i64 a0_0) := (blk_cell BK218.out 0).trans rfl
          have hcz27_1 : wr.cell? ⟨gb218, 1, none⟩ = some (.int .i64 a0_1) := (blk_cell BK218.out 1).trans rfl
          have hcz27_2 : wr.cell? ⟨gb218, 2, none⟩ = some (.int .i64 a0_2) := (blk_cell BK218.out 2).trans rfl
          have hcz27_3 : wr.cell? ⟨gb218, 3, none⟩ = some (.int .i64 a0_3) := (blk_cell BK218.out 3).trans rfl
          have hcz27_4 : wr.cell? ⟨gb218, 4, none⟩ = some (.int .i64 a0_4) := (blk_cell BK218.out 4).trans rfl
          have hcz27_5 : wr.cell? ⟨gb218, 5, none⟩ = some (.slice A0_5 l0_5.length c0_5) := (blk_cell BK218.out 5).trans rfl
          have hcz27_6 : wr.cell? ⟨gb218, 6, none⟩ = some (.int .i64 a0_6) := (blk_cell BK218.out 6).trans rfl
          have hcz27_7 : wr.cell? ⟨gb218, 7, none⟩ = some (.int .i64 a0_7) := (blk_cell BK218.out 7).trans rfl
          have hfz27_0 := blk_frozen BK218.out 0
          have hfz27_1 := blk_frozen BK218.out 1
          have hfz27_2 := blk_frozen BK218.out 2
          have hfz27_3 := blk_frozen BK218.out 3
          have hfz27_4 := blk_frozen BK218.out 4
          have hfz27_5 := blk_frozen BK218.out 5
          have hfz27_6 := blk_frozen BK218.out 6
          have hfz27_7 := blk_frozen BK218.out 7
          go_wp2_with (first | ((with_reducible refine gate_callee (f := 30) rfl ?_); refine goesL_ (some 44) rfl rfl Try.func30 (by kernel_rfl) rfl #[.int .i64 a0_2] rfl zA ?_; (with_reducible refine (turntableref37_slot.calls k1 a0_2 t223 _ A25.out).mono ?_); rintro e w28 ⟨rfl, hb⟩; refine ⟨_, rfl, ?_⟩; have n0_ := Aside0.mk (blk_below (g := gb218) (o := .cells #[.int .i64 a0_0, .int .i64 a0_1, .int .i64 a0_2, .int .i64 a0_3, .int .i64 a0_4, .slice A0_5 l0_5.length c0_5, .int .i64 a0_6, .int .i64 a0_7] 37 (0, 0)) (zK BK218.out) hb); have n1_ := Aside0.mk (below_step (zC HB.out GE218.out) hb); clear BK218; clear HB; have BK218 := n0_; have HB := n1_; clear n0_ n1_; (try clear hb); (try clear hb2); (try clear hk); (try clear hi)))
          go_roundg k1
          case measure => have := HK1.out; omega
          case rel => exact ⟨((x3_1 ++ (⟨#[32]⟩ : ByteArray)) ++ t223), (wrap64 (x5_1 + 1)), (by first | rfl | (simp; done) | (simp [*]; done)), (by first | rfl | (simp; done) | (simp [*]; done)), H', ⟨by have := HK1.out; omega⟩, ⟨zK BK218.out⟩, ⟨zC HB.out GE218.out⟩⟩
         ·rw [if_neg c26] at H
          exact absurd H (by simp)
        ·rw [if_neg c24] at H
         exact absurd H (by simp)
      ·rw [if_neg c17] at H
       have c17b0 : ((bt t220 x5_1) == 97) = false := beq_eq_false_iff_ne.mpr c17
       have c17b1 : ((bt t220 x5_1) != 97) = true := bne_iff_ne.mpr c17
       by_cases c29 : (bt t220 x5_1) = 98
       ·rw [if_pos c29] at H
        have c29b0 : ((bt t220 x5_1) == 98) = true := beq_iff_eq.mpr c29
        have c29b1 : ((bt t220 x5_1) != 98) = false := bne_eq_false_iff_eq.mpr c29
        clear c29
        by_cases c30 : x3_1.size + 1 ≤ 9223372036854775807
        ·rw [if_pos c30] at H
         have c30b0 := eq_true c30
         have c30b1 : decide (x3_1.size + 1 ≤ 9223372036854775807) = true := decide_eq_true c30
         try have c30b2 : (9223372036854775807 < x3_1.size + 1) = False := eq_false (Nat.not_lt.2 c30)
         replace H := Option.bind_eq_some_iff.mp H
         obtain ⟨t224, A310, H⟩ := H
         replace H : (if (x3_1 ++ (⟨#[32]⟩ : ByteArray)).size + t224.size ≤ 9223372036854775807 then (turntableref37_Inst.l0 k1 ((x3_1 ++ (⟨#[32]⟩ : ByteArray)) ++ t224) t220 (wrap64 (x5_1 + 1)) a0_0 a0_1 a0_2 a0_3 a0_4 l0_5 a0_6 a0_7) else (none)) = some r := H
         have A31 := Aside0.mk A310
         clear A310
         by_cases c32 : (x3_1 ++ (⟨#[32]⟩ : ByteArray)).size + t224.size ≤ 9223372036854775807
         ·rw [if_pos c32] at H
          have c32b0 := eq_true c32
          have c32b1 : decide ((x3_1 ++ (⟨#[32]⟩ : ByteArray)).size + t224.size ≤ 9223372036854775807) = true := decide_eq_true c32
          try have c32b2 : (9223372036854775807 < (x3_1 ++ (⟨#[32]⟩ : ByteArray)).size + t224.size) = False := eq_false (Nat.not_lt.2 c32)
          try (have c32b3 := c32b2; simp only [ByteArray.size_append, show ((⟨#[32]⟩ : ByteArray)).size = 1 from rfl] at c32b3)
          have H' := Aside0.mk H
          clear H
          have p10 : 0 ≤ (x5_1 : Int) := of_decide_eq_true zS
          have q10 : x5_1 < (t220.size : Int) := of_decide_eq_true zS
          have hx10 := bt_at t220 x5_1
          replace p10 := eq_true p10
          replace q10 := eq_true q10
          have hcz33_0 : wr.cell? ⟨gb218, 0, none⟩ = some (.int .i64 a0_0) := (blk_cell BK218.out 0).trans rfl
          have hcz33_1 : wr.cell? ⟨gb218, 1, none⟩ = some (.int .i64 a0_1) := (blk_cell BK218.out 1).trans rfl
          have hcz33_2 : wr.cell? ⟨gb218, 2, none⟩ = some (.int .i64 a0_2) := (blk_cell BK218.out 2).trans rfl
          have hcz33_3 : wr.cell? ⟨gb218, 3, none⟩ = some (.int .i64 a0_3) := (blk_cell BK218.out 3).trans rfl
          have hcz33_4 : wr.cell? ⟨gb218, 4, none⟩ = some (.int .i64 a0_4) := (blk_cell BK218.out 4).trans rfl
          have hcz33_5 : wr.cell? ⟨gb218, 5, none⟩ = some (.slice A0_5 l0_5.length c0_5) := (blk_cell BK218.out 5).trans rfl
          have hcz33_6 : wr.cell? ⟨gb218, 6, none⟩ = some (.int .i64 a0_6) := (blk_cell BK218.out 6).trans rfl
          have hcz33_7 : wr.cell? ⟨gb218, 7, none⟩ = some (.int .i64 a0_7) := (blk_cell BK218.out 7).trans rfl
          have hfz33_0 := blk_frozen BK218.out 0
          have hfz33_1 := blk_frozen BK218.out 1
          have hfz33_2 := blk_frozen BK218.out 2
          have hfz33_3 := blk_frozen BK218.out 3
          have hfz33_4 := blk_frozen BK218.out 4
          have hfz33_5 := blk_frozen BK218.out 5
          have hfz33_6 := blk_frozen BK218.out 6
          have hfz33_7 := blk_frozen BK218.out 7
          go_wp2_with (first | ((with_reducible refine gate_callee (f := 30) rfl ?_); refine goesL_ (some 52) rfl rfl Try.func30 (by kernel_rfl) rfl #[.int .i64 a0_3] rfl zA ?_; (with_reducible refine (turntableref37_slot.calls k1 a0_3 t224 _ A31.out).mono ?_); rintro e w34 ⟨rfl, hb⟩; refine ⟨_, rfl, ?_⟩; have n0_ := Aside0.mk (blk_below (g := gb218) (o := .cells #[.int .i64 a0_0, .int .i64 a0_1, .int .i64 a0_2, .int .i64 a0_3, .int .i64 a0_4, .slice A0_5 l0_5.length c0_5, .int .i64 a0_6, .int .i64 a0_7] 37 (0, 0)) (zK BK218.out) hb); have n1_ := Aside0.mk (below_step (zC HB.out GE218.out) hb); clear BK218; clear HB; have BK218 := n0_; have HB := n1_; clear n0_ n1_; (try clear hb); (try clear hb2); (try clear hk); (try clear hi)))
          go_roundg k1
          case measure => have := HK1.out; omega
          case rel => exact ⟨((x3_1 ++ (⟨#[32]⟩ : ByteArray)) ++ t224), (wrap64 (x5_1 + 1)), (by first | rfl | (simp; done) | (simp [*]; done)), (by first | rfl | (simp; done) | (simp [*]; done)), H', ⟨by have := HK1.out; omega⟩, ⟨zK BK218.out⟩, ⟨zC HB.out GE218.out⟩⟩
         ·rw [if_neg c32] at H
          exact absurd H (by simp)
        ·rw [if_neg c30] at H
         exact absurd H (by simp)
       ·rw [if_neg c29] at H
        have c29b0 : ((bt t220 x5_1) == 98) = false := beq_eq_false_iff_ne.mpr c29
        have c29b1 : ((bt t220 x5_1) != 98) = true := bne_iff_ne.mpr c29
        have HC35 := Aside0.mk H
        clear H
        have p10 : 0 ≤ (x5_1 : Int) := of_decide_eq_true zS
        have q10 : x5_1 < (t220.size : Int) := of_decide_eq_true zS
        have hx10 := bt_at t220 x5_1
        replace p10 := eq_true p10
        replace q10 := eq_true q10
        go_upto_if 54 with (fail)
        go_cut [54] (fun v54 wc => ∃ (kq : Nat) (x54_34 : Bool), v54 = .bool x54_34 ∧ Aside0 (turntableref37_Inst.j1 kq x3_1 t220 x5_1 (bt t220 x5_1) x54_34 a0_0 a0_1 a0_2 a0_3 a0_4 l0_5 a0_6 a0_7 = some r) ∧ Aside0 (kq ≤ k1) ∧ Aside0 (wc.heap[gb218]? = some (.cells #[.int .i64 a0_0, .int .i64 a0_1, .int .i64 a0_2, .int .i64 a0_3, .int .i64 a0_4, (.slice A0_5 l0_5.length c0_5), .int .i64 a0_6, .int .i64 a0_7] 37 (0, 0))) ∧ Aside0 (Below w.heap.size w wc))
        case first =>
         have H := HC35.out
         clear HC35
         by_cases c36 : (bt t220 x5_1) = 115
         ·rw [if_pos c36] at H
          have c36b0 : ((bt t220 x5_1) == 115) = true := beq_iff_eq.mpr c36
          have c36b1 : ((bt t220 x5_1) != 115) = false := bne_eq_false_iff_eq.mpr c36
          clear c36
          (first | rw [c36b0] | (simp only [i64_w, i32_w]; rw [c36b0]) | skip)
          have H' := Aside0.mk H
          clear H
          go_wp2
          go_meet
          case rel => exact ⟨_, (((bt t220 x5_1) == 115)), (by first | rfl | (simp; done) | (simp [*]; done)), H', ⟨by have := HK1.out; first | omega | exact Nat.le_refl _⟩, ⟨zK BK218.out⟩, ⟨zC HB.out GE218.out⟩⟩
         ·rw [if_neg c36] at H
          have c36b0 : ((bt t220 x5_1) == 115) = false := beq_eq_false_iff_ne.mpr c36
          have c36b1 : ((bt t220 x5_1) != 115) = true := bne_iff_ne.mpr c36
          (first | rw [c36b0] | (simp only [i64_w, i32_w]; rw [c36b0]) | skip)
          have H' := Aside0.mk H
          clear H
          go_wp2
          go_meet
          case rel => exact ⟨_, (((bt t220 x5_1) == 119)), (by first | rfl | (simp; done) | (simp [*]; done)), H', ⟨by have := HK1.out; first | omega | exact Nat.le_refl _⟩, ⟨zK BK218.out⟩, ⟨zC HB.out GE218.out⟩⟩
        case rest =>
         clear HC35
         try clear c1
         try clear p1
         try clear q1
         try clear hx1
         try clear c2
         try clear p2
         try clear c3
         try clear p6
         try clear c8
         try clear c8b0
         try clear c9
         try clear c9b0
         try clear p10
         try clear q10
         try clear hx10
         try clear c11
         try clear c11b0
         try clear c11b1
         try clear c12
         try clear c12b0
         try clear c12b1
         try clear c12b2
         try clear c13
         try clear c14
         try clear c14b0
         try clear c14b1
         try clear c14b2
         try clear c17
         try clear c17b0
         try clear c17b1
         try clear c18
         try clear c18b0
         try clear c18b1
         try clear c19
         try clear c19b0
         try clear c19b1
         try clear c19b2
         try clear c21
         try clear c21b0
         try clear c21b1
         try clear c21b2
         try clear c24
         try clear c24b0
         try clear c24b1
         try clear c24b2
         try clear c26
         try clear c26b0
         try clear c26b1
         try clear c26b2
         try clear c29
         try clear c29b0
         try clear c29b1
         try clear c30
         try clear c30b0
         try clear c30b1
         try clear c30b2
         try clear c31
         try clear c32
         try clear c32b0
         try clear c32b1
         try clear c32b2
         try clear c36
         try clear c36b0
         try clear c36b1
         try clear hcz15_0
         try clear hcz15_1
         try clear hcz15_2
         try clear hcz15_3
         try clear hcz15_4
         try clear hcz15_5
         try clear hcz15_6
         try clear hcz15_7
         try clear hcz22_0
         try clear hcz22_1
         try clear hcz22_2
         try clear hcz22_3
         try clear hcz22_4
         try clear hcz22_5
         try clear hcz22_6
         try clear hcz22_7
         try clear hcz27_0
         try clear hcz27_1
         try clear hcz27_2
         try clear hcz27_3
         try clear hcz27_4
         try clear hcz27_5
         try clear hcz27_6
         try clear hcz27_7
         try clear hcz33_0
         try clear hcz33_1
         try clear hcz33_2
         try clear hcz33_3
         try clear hcz33_4
         try clear hcz33_5
         try clear hcz33_6
         try clear hcz33_7
         try clear hcz5_0
         try clear hcz5_1
         try clear hcz5_2
         try clear hcz5_3
         try clear hcz5_4
         try clear hcz5_5
         try clear hcz5_6
         try clear hcz5_7
         try clear hcz7_0
         try clear hcz7_1
         try clear hcz7_2
         try clear hcz7_3
         try clear hcz7_4
         try clear hcz7_5
         try clear hcz7_6
         try clear hcz7_7
         try clear hfz15_0
         try clear hfz15_1
         try clear hfz15_2
         try clear hfz15_3
         try clear hfz15_4
         try clear hfz15_5
         try clear hfz15_6
         try clear hfz15_7
         try clear hfz22_0
         try clear hfz22_1
         try clear hfz22_2
         try clear hfz22_3
         try clear hfz22_4
         try clear hfz22_5
         try clear hfz22_6
         try clear hfz22_7
         try clear hfz27_0
         try clear hfz27_1
         try clear hfz27_2
         try clear hfz27_3
         try clear hfz27_4
         try clear hfz27_5
         try clear hfz27_6
         try clear hfz27_7
         try clear hfz33_0
         try clear hfz33_1
         try clear hfz33_2
         try clear hfz33_3
         try clear hfz33_4
         try clear hfz33_5
         try clear hfz33_6
         try clear hfz33_7
         try clear hfz5_0
         try clear hfz5_1
         try clear hfz5_2
         try clear hfz5_3
         try clear hfz5_4
         try clear hfz5_5
         try clear hfz5_6
         try clear hfz5_7
         try clear hfz7_0
         try clear hfz7_1
         try clear hfz7_2
         try clear hfz7_3
         try clear hfz7_4
         try clear hfz7_5
         try clear hfz7_6
         try clear hfz7_7
         try clear p10
         try clear p2
         try clear q10
         obtain ⟨kq, x54_34, rfl, HA, HJ34, BK218, HB⟩ := hcut
         cases kq with
         | zero => exact absurd HA.out (by simp [turntableref37_Inst.j1])
         | succ kj34 =>
          have H := HA.out
          clear HA
          simp only [turntableref37_Inst.j1] at H
          by_cases c37 : x54_34 = true
          ·subst c37
           have H1 : (if x3_1.size + 1 ≤ 9223372036854775807 then ((turntableref01_Print.f kj34 a0_4).bind fun t225 => (if (x3_1 ++ (⟨#[32]⟩ : ByteArray)).size + t225.size ≤ 9223372036854775807 then (turntableref37_Inst.l0 kj34 ((x3_1 ++ (⟨#[32]⟩ : ByteArray)) ++ t225) t220 (wrap64 (x5_1 + 1)) a0_0 a0_1 a0_2 a0_3 a0_4 l0_5 a0_6 a0_7) else (none))) else (none)) = some r := by rw [if_pos rfl] at H; exact H
           clear H
           have H := H1
           clear H1
           by_cases c38 : x3_1.size + 1 ≤ 9223372036854775807
           ·rw [if_pos c38] at H
            have c38b0 := eq_true c38
            have c38b1 : decide (x3_1.size + 1 ≤ 9223372036854775807) = true := decide_eq_true c38
            try have c38b2 : (9223372036854775807 < x3_1.size + 1) = False := eq_false (Nat.not_lt.2 c38)
            replace H := Option.bind_eq_some_iff.mp H
            obtain ⟨t225, A390, H⟩ := H
            replace H : (if (x3_1 ++ (⟨#[32]⟩ : ByteArray)).size + t225.size ≤ 9223372036854775807 then (turntableref37_Inst.l0 kj34 ((x3_1 ++ (⟨#[32]⟩ : ByteArray)) ++ t225) t220 (wrap64 (x5_1 + 1)) a0_0 a0_1 a0_2 a0_3 a0_4 l0_5 a0_6 a0_7) else (none)) = some r := H
            have A39 := Aside0.mk A390
            clear A390
            by_cases c40 : (x3_1 ++ (⟨#[32]⟩ : ByteArray)).size + t225.size ≤ 9223372036854775807
            ·rw [if_pos c40] at H
             have c40b0 := eq_true c40
             have c40b1 : decide ((x3_1 ++ (⟨#[32]⟩ : ByteArray)).size + t225.size ≤ 9223372036854775807) = true := decide_eq_true c40
             try have c40b2 : (9223372036854775807 < (x3_1 ++ (⟨#[32]⟩ : ByteArray)).size + t225.size) = False := eq_false (Nat.not_lt.2 c40)
             try (have c40b3 := c40b2; simp only [ByteArray.size_append, show ((⟨#[32]⟩ : ByteArray)).size = 1 from rfl] at c40b3)
             have H' := Aside0.mk H
             clear H
             have hcz41_0 : wc.cell? ⟨gb218, 0, none⟩ = some (.int .i64 a0_0) := (blk_cell BK218.out 0).trans rfl
             have hcz41_1 : wc.cell? ⟨gb218, 1, none⟩ = some (.int .i64 a0_1) := (blk_cell BK218.out 1).trans rfl
             have hcz41_2 : wc.cell? ⟨gb218, 2, none⟩ = some (.int .i64 a0_2) := (blk_cell BK218.out 2).trans rfl
             have hcz41_3 : wc.cell? ⟨gb218, 3, none⟩ = some (.int .i64 a0_3) := (blk_cell BK218.out 3).trans rfl
             have hcz41_4 : wc.cell? ⟨gb218, 4, none⟩ = some (.int .i64 a0_4) := (blk_cell BK218.out 4).trans rfl
             have hcz41_5 : wc.cell? ⟨gb218, 5, none⟩ = some (.slice A0_5 l0_5.length c0_5) := (blk_cell BK218.out 5).trans rfl
             have hcz41_6 : wc.cell? ⟨gb218, 6, none⟩ = some (.int .i64 a0_6) := (blk_cell BK218.out 6).trans rfl
             have hcz41_7 : wc.cell? ⟨gb218, 7, none⟩ = some (.int .i64 a0_7) := (blk_cell BK218.out 7).trans rfl
             have hfz41_0 := blk_frozen BK218.out 0
             have hfz41_1 := blk_frozen BK218.out 1
             have hfz41_2 := blk_frozen BK218.out 2
             have hfz41_3 := blk_frozen BK218.out 3
             have hfz41_4 := blk_frozen BK218.out 4
             have hfz41_5 := blk_frozen BK218.out 5
             have hfz41_6 := blk_frozen BK218.out 6
             have hfz41_7 := blk_frozen BK218.out 7
             go_wp2_with (first | ((with_reducible refine gate_callee (f := 32) rfl ?_); refine goesL_ (some 61) rfl rfl Try.func32 (by kernel_rfl) rfl #[.int .i64 a0_4] rfl zA ?_; (with_reducible refine (turntableref01_Print.calls kj34 a0_4 t225 _ A39.out).mono ?_); rintro e w42 ⟨rfl, hb⟩; refine ⟨_, rfl, ?_⟩; have n0_ := Aside0.mk (blk_below (g := gb218) (o := .cells #[.int .i64 a0_0, .int .i64 a0_1, .int .i64 a0_2, .int .i64 a0_3, .int .i64 a0_4, .slice A0_5 l0_5.length c0_5, .int .i64 a0_6, .int .i64 a0_7] 37 (0, 0)) (zK BK218.out) hb); have n1_ := Aside0.mk (below_step (zC HB.out GE218.out) hb); clear BK218; clear HB; have BK218 := n0_; have HB := n1_; clear n0_ n1_; (try clear hb); (try clear hb2); (try clear hk); (try clear hi)))
             go_roundg kj34
             case measure => have := HK1.out; have := HJ34.out; omega
             case rel => exact ⟨((x3_1 ++ (⟨#[32]⟩ : ByteArray)) ++ t225), (wrap64 (x5_1 + 1)), (by first | rfl | (simp; done) | (simp [*]; done)), (by first | rfl | (simp; done) | (simp [*]; done)), H', ⟨by have := HK1.out; have := HJ34.out; omega⟩, ⟨zK BK218.out⟩, ⟨zC HB.out GE218.out⟩⟩
            ·rw [if_neg c40] at H
             exact absurd H (by simp)
           ·rw [if_neg c38] at H
            exact absurd H (by simp)
          ·replace c37 := Bool.eq_false_iff.mpr c37
           subst c37
           have H1 : (if (bt t220 x5_1) = 108 then (if x3_1.size + 1 ≤ 9223372036854775807 then ((turntableref37_list.f kj34 l0_5).bind fun t226 => (if (x3_1 ++ (⟨#[32]⟩ : ByteArray)).size + t226.size ≤ 9223372036854775807 then (turntableref37_Inst.l0 kj34 ((x3_1 ++ (⟨#[32]⟩ : ByteArray)) ++ t226) t220 (wrap64 (x5_1 + 1)) a0_0 a0_1 a0_2 a0_3 a0_4 l0_5 a0_6 a0_7) else (none))) else (none)) else (if (bt t220 x5_1) = 111 then (if x3_1.size + 2 ≤ 9223372036854775807 then ((turntableref37_small.f kj34 a0_6).bind fun t227 => (if (x3_1 ++ (⟨#[32, 64]⟩ : ByteArray)).size + t227.size ≤ 9223372036854775807 then (turntableref37_Inst.l0 kj34 ((x3_1 ++ (⟨#[32, 64]⟩ : ByteArray)) ++ t227) t220 (wrap64 (x5_1 + 1)) a0_0 a0_1 a0_2 a0_3 a0_4 l0_5 a0_6 a0_7) else (none))) else (none)) else (if (bt t220 x5_1) = 116 then (if x3_1.size + 2 ≤ 9223372036854775807 then ((turntableref37_small.f kj34 a0_6).bind fun t228 => (if (x3_1 ++ (⟨#[32, 64]⟩ : ByteArray)).size + t228.size ≤ 9223372036854775807 then (if ((x3_1 ++ (⟨#[32, 64]⟩ : ByteArray)) ++ t228).size + 2 ≤ 9223372036854775807 then ((turntableref37_small.f kj34 a0_7).bind fun t229 => (if (((x3_1 ++ (⟨#[32, 64]⟩ : ByteArray)) ++ t228) ++ (⟨#[32, 64]⟩ : ByteArray)).size + t229.size ≤ 9223372036854775807 then (turntableref37_Inst.l0 kj34 ((((x3_1 ++ (⟨#[32, 64]⟩ : ByteArray)) ++ t228) ++ (⟨#[32, 64]⟩ : ByteArray)) ++ t229) t220 (wrap64 (x5_1 + 1)) a0_0 a0_1 a0_2 a0_3 a0_4 l0_5 a0_6 a0_7) else (none))) else (none)) else (none))) else (none)) else (turntableref37_Inst.l0 kj34 x3_1 t220 (wrap64 (x5_1 + 1)) a0_0 a0_1 a0_2 a0_3 a0_4 l0_5 a0_6 a0_7)))) = some r := by rw [if_neg (show ¬ (false = true) by decide)] at H; exact H
           clear H
           have H := H1
           clear H1
           by_cases c43 : (bt t220 x5_1) = 108
           ·rw [if_pos c43] at H
            have c43b0 : ((bt t220 x5_1) == 108) = true := beq_iff_eq.mpr c43
            have c43b1 : ((bt t220 x5_1) != 108) = false := bne_eq_false_iff_eq.mpr c43
            clear c43
            by_cases c44 : x3_1.size + 1 ≤ 9223372036854775807
            ·rw [if_pos c44] at H
             have c44b0 := eq_true c44
             have c44b1 : decide (x3_1.size + 1 ≤ 9223372036854775807) = true := decide_eq_true c44
             try have c44b2 : (9223372036854775807 < x3_1.size + 1) = False := eq_false (Nat.not_lt.2 c44)
             replace H := Option.bind_eq_some_iff.mp H
             obtain ⟨t226, A450, H⟩ := H
             replace H : (if (x3_1 ++ (⟨#[32]⟩ : ByteArray)).size + t226.size ≤ 9223372036854775807 then (turntableref37_Inst.l0 kj34 ((x3_1 ++ (⟨#[32]⟩ : ByteArray)) ++ t226) t220 (wrap64 (x5_1 + 1)) a0_0 a0_1 a0_2 a0_3 a0_4 l0_5 a0_6 a0_7) else (none)) = some r := H
             have A45 := Aside0.mk A450
             clear A450
             by_cases c46 : (x3_1 ++ (⟨#[32]⟩ : ByteArray)).size + t226.size ≤ 9223372036854775807
             ·rw [if_pos c46] at H
              have c46b0 := eq_true c46
              have c46b1 : decide ((x3_1 ++ (⟨#[32]⟩ : ByteArray)).size + t226.size ≤ 9223372036854775807) = true := decide_eq_true c46
              try have c46b2 : (9223372036854775807 < (x3_1 ++ (⟨#[32]⟩ : ByteArray)).size + t226.size) = False := eq_false (Nat.not_lt.2 c46)
              try (have c46b3 := c46b2; simp only [ByteArray.size_append, show ((⟨#[32]⟩ : ByteArray)).size = 1 from rfl] at c46b3)
              have H' := Aside0.mk H
              clear H
              have hcz47_0 : wc.cell? ⟨gb218, 0, none⟩ = some (.int .i64 a0_0) := (blk_cell BK218.out 0).trans rfl
              have hcz47_1 : wc.cell? ⟨gb218, 1, none⟩ = some (.int .i64 a0_1) := (blk_cell BK218.out 1).trans rfl
              have hcz47_2 : wc.cell? ⟨gb218, 2, none⟩ = some (.int .i64 a0_2) := (blk_cell BK218.out 2).trans rfl
              have hcz47_3 : wc.cell? ⟨gb218, 3, none⟩ = some (.int .i64 a0_3) := (blk_cell BK218.out 3).trans rfl
              have hcz47_4 : wc.cell? ⟨gb218, 4, none⟩ = some (.int .i64 a0_4) := (blk_cell BK218.out 4).trans rfl
              have hcz47_5 : wc.cell? ⟨gb218, 5, none⟩ = some (.slice A0_5 l0_5.length c0_5) := (blk_cell BK218.out 5).trans rfl
              have hcz47_6 : wc.cell? ⟨gb218, 6, none⟩ = some (.int .i64 a0_6) := (blk_cell BK218.out 6).trans rfl
              have hcz47_7 : wc.cell? ⟨gb218, 7, none⟩ = some (.int .i64 a0_7) := (blk_cell BK218.out 7).trans rfl
              have hfz47_0 := blk_frozen BK218.out 0
              have hfz47_1 := blk_frozen BK218.out 1
              have hfz47_2 := blk_frozen BK218.out 2
              have hfz47_3 := blk_frozen BK218.out 3
              have hfz47_4 := blk_frozen BK218.out 4
              have hfz47_5 := blk_frozen BK218.out 5
              have hfz47_6 := blk_frozen BK218.out 6
              have hfz47_7 := blk_frozen BK218.out 7
              go_wp2_with (first | ((with_reducible refine gate_callee (f := 33) rfl ?_); refine goesL_ (some 69) rfl rfl Try.func33 (by kernel_rfl) rfl #[.slice A0_5 l0_5.length c0_5] rfl zA ?_; (with_reducible refine (turntableref37_list.calls kj34 _ _ l0_5 t226 _ ?side1 ?side2 A45.out).mono ?_); (case side1 => repeat (first | exact (Kd.C_below HR0_5.out HB.out) | (with_reducible refine Kd.C_alloc ?_ _) | (with_reducible refine Kd.C_drewN ?_ _) | (with_reducible refine Kd.C_drew ?_))); (case side2 => exact HC0_5.out); rintro e w48 ⟨rfl, hb⟩; refine ⟨_, rfl, ?_⟩; have n0_ := Aside0.mk (blk_below (g := gb218) (o := .cells #[.int .i64 a0_0, .int .i64 a0_1, .int .i64 a0_2, .int .i64 a0_3, .int .i64 a0_4, .slice A0_5 l0_5.length c0_5, .int .i64 a0_6, .int .i64 a0_7] 37 (0, 0)) (zK BK218.out) hb); have n1_ := Aside0.mk (below_step (zC HB.out GE218.out) hb); clear BK218; clear HB; have BK218 := n0_; have HB := n1_; clear n0_ n1_; (try clear hb); (try clear hb2); (try clear hk); (try clear hi)))
              go_roundg kj34
              case measure => have := HK1.out; have := HJ34.out; omega
              case rel => exact ⟨((x3_1 ++ (⟨#[32]⟩ : ByteArray)) ++ t226), (wrap64 (x5_1 + 1)), (by first | rfl | (simp; done) | (simp [*]; done)), (by first | rfl | (simp; done) | (simp [*]; done)), H', ⟨by have := HK1.out; have := HJ34.out; omega⟩, ⟨zK BK218.out⟩, ⟨zC HB.out GE218.out⟩⟩
             ·rw [if_neg c46] at H
              exact absurd H (by simp)
            ·rw [if_neg c44] at H
             exact absurd H (by simp)
           ·rw [if_neg c43] at H
            have c43b0 : ((bt t220 x5_1) == 108) = false := beq_eq_false_iff_ne.mpr c43
            have c43b1 : ((bt t220 x5_1) != 108) = true := bne_iff_ne.mpr c43
            by_cases c49 : (bt t220 x5_1) = 111
            ·rw [if_pos c49] at H
             have c49b0 : ((bt t220 x5_1) == 111) = true := beq_iff_eq.mpr c49
             have c49b1 : ((bt t220 x5_1) != 111) = false := bne_eq_false_iff_eq.mpr c49
             clear c49
             by_cases c50 : x3_1.size + 2 ≤ 9223372036854775807
             ·rw [if_pos c50] at H
              have c50b0 := eq_true c50
              have c50b1 : decide (x3_1.size + 2 ≤ 9223372036854775807) = true := decide_eq_true c50
              try have c50b2 : (9223372036854775807 < x3_1.size + 2) = False := eq_false (Nat.not_lt.2 c50)
              replace H := Option.bind_eq_some_iff.mp H
              obtain ⟨t227, A510, H⟩ := H
              replace H : (if (x3_1 ++ (⟨#[32, 64]⟩ : ByteArray)).size + t227.size ≤ 9223372036854775807 then (turntableref37_Inst.l0 kj34 ((x3_1 ++ (⟨#[32, 64]⟩ : ByteArray)) ++ t227) t220 (wrap64 (x5_1 + 1)) a0_0 a0_1 a0_2 a0_3 a0_4 l0_5 a0_6 a0_7) else (none)) = some r := H
              have A51 := Aside0.mk A510
              clear A510
              by_cases c52 : (x3_1 ++ (⟨#[32, 64]⟩ : ByteArray)).size + t227.size ≤ 9223372036854775807
              ·rw [if_pos c52] at H
               have c52b0 := eq_true c52
               have c52b1 : decide ((x3_1 ++ (⟨#[32, 64]⟩ : ByteArray)).size + t227.size ≤ 9223372036854775807) = true := decide_eq_true c52
               try have c52b2 : (9223372036854775807 < (x3_1 ++ (⟨#[32, 64]⟩ : ByteArray)).size + t227.size) = False := eq_false (Nat.not_lt.2 c52)
               try (have c52b3 := c52b2; simp only [ByteArray.size_append, show ((⟨#[32, 64]⟩ : ByteArray)).size = 2 from rfl] at c52b3)
               have H' := Aside0.mk H
               clear H
               have hcz53_0 : wc.cell? ⟨gb218, 0, none⟩ = some (.int .i64 a0_0) := (blk_cell BK218.out 0).trans rfl
               have hcz53_1 : wc.cell? ⟨gb218, 1, none⟩ = some (.int .i64 a0_1) := (blk_cell BK218.out 1).trans rfl
               have hcz53_2 : wc.cell? ⟨gb218, 2, none⟩ = some (.int .i64 a0_2) := (blk_cell BK218.out 2).trans rfl
               have hcz53_3 : wc.cell? ⟨gb218, 3, none⟩ = some (.int .i64 a0_3) := (blk_cell BK218.out 3).trans rfl
               have hcz53_4 : wc.cell? ⟨gb218, 4, none⟩ = some (.int .i64 a0_4) := (blk_cell BK218.out 4).trans rfl
               have hcz53_5 : wc.cell? ⟨gb218, 5, none⟩ = some (.slice A0_5 l0_5.length c0_5) := (blk_cell BK218.out 5).trans rfl
               have hcz53_6 : wc.cell? ⟨gb218, 6, none⟩ = some (.int .i64 a0_6) := (blk_cell BK218.out 6).trans rfl
               have hcz53_7 : wc.cell? ⟨gb218, 7, none⟩ = some (.int .i64 a0_7) := (blk_cell BK218.out 7).trans rfl
               have hfz53_0 := blk_frozen BK218.out 0
               have hfz53_1 := blk_frozen BK218.out 1
               have hfz53_2 := blk_frozen BK218.out 2
               have hfz53_3 := blk_frozen BK218.out 3
               have hfz53_4 := blk_frozen BK218.out 4
               have hfz53_5 := blk_frozen BK218.out 5
               have hfz53_6 := blk_frozen BK218.out 6
               have hfz53_7 := blk_frozen BK218.out 7
               go_wp2_with (first | ((with_reducible refine gate_callee (f := 31) rfl ?_); refine goesL_ (some 78) rfl rfl Try.func31 (by kernel_rfl) rfl #[.int .i64 a0_6] rfl zA ?_; (with_reducible refine (turntableref37_small.calls kj34 a0_6 t227 _ A51.out).mono ?_); rintro e w54 ⟨rfl, hb⟩; refine ⟨_, rfl, ?_⟩; have n0_ := Aside0.mk (blk_below (g := gb218) (o := .cells #[.int .i64 a0_0, .int .i64 a0_1, .int .i64 a0_2, .int .i64 a0_3, .int .i64 a0_4, .slice A0_5 l0_5.length c0_5, .int .i64 a0_6, .int .i64 a0_7] 37 (0, 0)) (zK BK218.out) hb); have n1_ := Aside0.mk (below_step (zC HB.out GE218.out) hb); clear BK218; clear HB; have BK218 := n0_; have HB := n1_; clear n0_ n1_; (try clear hb); (try clear hb2); (try clear hk); (try clear hi)))
               go_roundg kj34
               case measure => have := HK1.out; have := HJ34.out; omega
               case rel => exact ⟨((x3_1 ++ (⟨#[32, 64]⟩ : ByteArray)) ++ t227), (wrap64 (x5_1 + 1)), (by first | rfl | (simp; done) | (simp [*]; done)), (by first | rfl | (simp; done) | (simp [*]; done)), H', ⟨by have := HK1.out; have := HJ34.out; omega⟩, ⟨zK BK218.out⟩, ⟨zC HB.out GE218.out⟩⟩
              ·rw [if_neg c52] at H
               exact absurd H (by simp)
             ·rw [if_neg c50] at H
              exact absurd H (by simp)
            ·rw [if_neg c49] at H
             have c49b0 : ((bt t220 x5_1) == 111) = false := beq_eq_false_iff_ne.mpr c49
             have c49b1 : ((bt t220 x5_1) != 111) = true := bne_iff_ne.mpr c49
             by_cases c55 : (bt t220 x5_1) = 116
             ·rw [if_pos c55] at H
              have c55b0 : ((bt t220 x5_1) == 116) = true := beq_iff_eq.mpr c55
              have c55b1 : ((bt t220 x5_1) != 116) = false := bne_eq_false_iff_eq.mpr c55
              clear c55
              by_cases c56 : x3_1.size + 2 ≤ 9223372036854775807
              ·rw [if_pos c56] at H
               have c56b0 := eq_true c56
               have c56b1 : decide (x3_1.size + 2 ≤ 9223372036854775807) = true := decide_eq_true c56
               try have c56b2 : (9223372036854775807 < x3_1.size + 2) = False := eq_false (Nat.not_lt.2 c56)
               replace H := Option.bind_eq_some_iff.mp H
               obtain ⟨t228, A570, H⟩ := H
               replace H : (if (x3_1 ++ (⟨#[32, 64]⟩ : ByteArray)).size + t228.size ≤ 9223372036854775807 then (if ((x3_1 ++ (⟨#[32, 64]⟩ : ByteArray)) ++ t228).size + 2 ≤ 9223372036854775807 then ((turntableref37_small.f kj34 a0_7).bind fun t229 => (if (((x3_1 ++ (⟨#[32, 64]⟩ : ByteArray)) ++ t228) ++ (⟨#[32, 64]⟩ : ByteArray)).size + t229.size ≤ 9223372036854775807 then (turntableref37_Inst.l0 kj34 ((((x3_1 ++ (⟨#[32, 64]⟩ : ByteArray)) ++ t228) ++ (⟨#[32, 64]⟩ : ByteArray)) ++ t229) t220 (wrap64 (x5_1 + 1)) a0_0 a0_1 a0_2 a0_3 a0_4 l0_5 a0_6 a0_7) else (none))) else (none)) else (none)) = some r := H
               have A57 := Aside0.mk A570
               clear A570
               by_cases c58 : (x3_1 ++ (⟨#[32, 64]⟩ : ByteArray)).size + t228.size ≤ 9223372036854775807
               ·rw [if_pos c58] at H
                have c58b0 := eq_true c58
                have c58b1 : decide ((x3_1 ++ (⟨#[32, 64]⟩ : ByteArray)).size + t228.size ≤ 9223372036854775807) = true := decide_eq_true c58
                try have c58b2 : (9223372036854775807 < (x3_1 ++ (⟨#[32, 64]⟩ : ByteArray)).size + t228.size) = False := eq_false (Nat.not_lt.2 c58)
                try (have c58b3 := c58b2; simp only [ByteArray.size_append, show ((⟨#[32, 64]⟩ : ByteArray)).size = 2 from rfl] at c58b3)
                by_cases c59 : ((x3_1 ++ (⟨#[32, 64]⟩ : ByteArray)) ++ t228).size + 2 ≤ 9223372036854775807
                ·rw [if_pos c59] at H
                 have c59b0 := eq_true c59
                 have c59b1 : decide (((x3_1 ++ (⟨#[32, 64]⟩ : ByteArray)) ++ t228).size + 2 ≤ 9223372036854775807) = true := decide_eq_true c59
                 try have c59b2 : (9223372036854775807 < ((x3_1 ++ (⟨#[32, 64]⟩ : ByteArray)) ++ t228).size + 2) = False := eq_false (Nat.not_lt.2 c59)
                 try (have c59b3 := c59b2; simp only [ByteArray.size_append, show ((⟨#[32, 64]⟩ : ByteArray)).size = 2 from rfl] at c59b3)
                 replace H := Option.bind_eq_some_iff.mp H
                 obtain ⟨t229, A600, H⟩ := H
                 replace H : (if (((x3_1 ++ (⟨#[32, 64]⟩ : ByteArray)) ++ t228) ++ (⟨#[32, 64]⟩ : ByteArray)).size + t229.size ≤ 9223372036854775807 then (turntableref37_Inst.l0 kj34 ((((x3_1 ++ (⟨#[32, 64]⟩ : ByteArray)) ++ t228) ++ (⟨#[32, 64]⟩ : ByteArray)) ++ t229) t220 (wrap64 (x5_1 + 1)) a0_0 a0_1 a0_2 a0_3 a0_4 l0_5 a0_6 a0_7) else (none)) = some r := H
                 have A60 := Aside0.mk A600
                 clear A600
                 by_cases c61 : (((x3_1 ++ (⟨#[32, 64]⟩ : ByteArray)) ++ t228) ++ (⟨#[32, 64]⟩ : ByteArray)).size + t229.size ≤ 9223372036854775807
                 ·rw [if_pos c61] at H
                  have c61b0 := eq_true c61
                  have c61b1 : decide ((((x3_1 ++ (⟨#[32, 64]⟩ : ByteArray)) ++ t228) ++ (⟨#[32, 64]⟩ : ByteArray)).size + t229.size ≤ 9223372036854775807) = true := decide_eq_true c61
                  try have c61b2 : (9223372036854775807 < (((x3_1 ++ (⟨#[32, 64]⟩ : ByteArray)) ++ t228) ++ (⟨#[32, 64]⟩ : ByteArray)).size + t229.size) = False := eq_false (Nat.not_lt.2 c61)
                  try (have c61b3 := c61b2; simp only [ByteArray.size_append, show ((⟨#[32, 64]⟩ : ByteArray)).size = 2 from rfl] at c61b3)
                  have H' := Aside0.mk H
                  clear H
                  try go_wp2
                  have n0_ := Aside0.mk (blk_drew BK218.out)
                  have n1_ := Aside0.mk (below_drew1 HB.out)
                  clear BK218
                  clear HB
                  have BK218 := n0_
                  have HB := n1_
                  clear n0_ n1_
                  refine start_ (n := 14) (S := fun w' => w'.cell? ⟨gb218, 0, none⟩ = some (.int .i64 a0_0) ∧ w'.cell? ⟨gb218, 1, none⟩ = some (.int .i64 a0_1) ∧ w'.cell? ⟨gb218, 2, none⟩ = some (.int .i64 a0_2) ∧ w'.cell? ⟨gb218, 3, none⟩ = some (.int .i64 a0_3) ∧ w'.cell? ⟨gb218, 4, none⟩ = some (.int .i64 a0_4) ∧ w'.cell? ⟨gb218, 5, none⟩ = some (.slice A0_5 l0_5.length c0_5) ∧ w'.cell? ⟨gb218, 6, none⟩ = some (.int .i64 a0_6) ∧ w'.cell? ⟨gb218, 7, none⟩ = some (.int .i64 a0_7)) (ds := []) #[false, false, false, false, false, false, false, false, false, false, false, false, false, false] (by kernel_rfl) rfl rfl ⟨(blk_cell BK218.out 0).trans rfl, (blk_cell BK218.out 1).trans rfl, (blk_cell BK218.out 2).trans rfl, (blk_cell BK218.out 3).trans rfl, (blk_cell BK218.out 4).trans rfl, (blk_cell BK218.out 5).trans rfl, (blk_cell BK218.out 6).trans rfl, (blk_cell BK218.out 7).trans rfl⟩ (fun hHeld => ?_); refine with_tabW turntableref37_Inst.tab23 turntableref37_Inst.bits23 (fun HT_ HW_ => ?_)
                  generalize wc.drew = w62 at BK218 HB hHeld ⊢
                  refine pure_ (i := 0) (N := some 82) (v := ?_) (a' := ?_) #[true, false, false, false, false, false, false, false, false, false, false, false, false, false] rfl rfl (any_of HT_.out (by kernel_rfl)) (fun _ _ _ h => h) (Or.inl ⟨by rfl, ?_⟩) ?_ ?_
                  rotate_left
                  ·intro w'
                   go_simp
                   with_reducible rfl
                  rotate_left
                  ·simp only [Act.put, List.setIfInBounds_toArray, List.set_cons_zero, List.set_cons_succ, i64_w, i32_w]
                   rfl
                  refine pure_ (i := 1) (N := some 83) (v := ?_) (a' := ?_) #[true, true, false, false, false, false, false, false, false, false, false, false, false, false] rfl rfl (any_of HT_.out (by kernel_rfl)) (fun _ _ _ h => h) (Or.inl ⟨by rfl, ?_⟩) ?_ ?_
                  rotate_left
                  ·intro w'
                   go_simp
                   with_reducible rfl
                  rotate_left
                  ·simp only [Act.put, List.setIfInBounds_toArray, List.set_cons_zero, List.set_cons_succ, i64_w, i32_w]
                   rfl
                  refine pure_ (i := 2) (N := some 84) (v := ?_) (a' := ?_) #[true, true, true, false, false, false, false, false, false, false, false, false, false, false] rfl rfl (any_of HT_.out (by kernel_rfl)) (fun _ _ _ h => h) (Or.inl ⟨by rfl, ?_⟩) ?_ ?_
                  rotate_left
                  ·intro w'
                   go_simp
                   with_reducible rfl
                  rotate_left
                  ·simp only [Act.put, List.setIfInBounds_toArray, List.set_cons_zero, List.set_cons_succ, i64_w, i32_w]
                   rfl
                  refine pure_ (i := 3) (N := some 85) (v := ?_) (a' := ?_) #[true, true, true, true, false, false, false, false, false, false, false, false, false, false] rfl rfl (any_of HT_.out (by kernel_rfl)) (fun _ _ _ h => h) (Or.inl ⟨by rfl, ?_⟩) ?_ ?_
                  rotate_left
                  ·intro w'
                   go_simp
                   with_reducible rfl
                  rotate_left
                  ·simp only [Act.put, List.setIfInBounds_toArray, List.set_cons_zero, List.set_cons_succ, i64_w, i32_w]
                   rfl
                  refine pure_ (i := 8) (N := some 90) (v := ?_) (a' := ?_) #[true, true, true, true, false, false, false, false, true, false, false, false, false, false] rfl rfl (any_of HT_.out (by kernel_rfl)) (fun _ _ _ h => h) (Or.inl ⟨by rfl, ?_⟩) ?_ ?_
                  rotate_left
                  ·intro w'
                   go_simp
                   with_reducible rfl
                  rotate_left
                  ·simp only [Act.put, List.setIfInBounds_toArray, List.set_cons_zero, List.set_cons_succ, i64_w, i32_w]
                   rfl
                  refine pure_ (i := 9) (N := some 91) (v := ?_) (a' := ?_) #[true, true, true, true, false, false, false, false, true, true, false, false, false, false] rfl rfl (any_of HT_.out (by kernel_rfl)) (fun _ _ _ h => h) (Or.inl ⟨by rfl, ?_⟩) ?_ ?_
                  rotate_left
                  ·intro w'
                   go_simp
                   with_reducible rfl
                  rotate_left
                  ·simp only [Act.put, List.setIfInBounds_toArray, List.set_cons_zero, List.set_cons_succ, i64_w, i32_w]
                   rfl
                  refine take_ (i := 4) (N := some 86) (v := ?_) (a' := ?_) #[true, true, true, true, true, false, false, false, true, true, false, false, false, false] rfl rfl (take_ofW HT_.out HW_.out (by kernel_rfl)) (fun _ _ _ h => h) (Or.inl ⟨by rfl, ?_⟩) hHeld ?_ ?_
                  rotate_left
                  ·rintro w' ⟨s0, s1, s2, s3, s4, s5, s6, s7⟩
                   go_simp
                   with_reducible rfl
                  rotate_left
                  ·simp only [Act.put, List.setIfInBounds_toArray, List.set_cons_zero, List.set_cons_succ, i64_w, i32_w]
                   rfl
                  refine take_ (i := 10) (N := some 92) (v := ?_) (a' := ?_) #[true, true, true, true, true, false, false, false, true, true, true, false, false, false] rfl rfl (take_ofW HT_.out HW_.out (by kernel_rfl)) (fun _ _ _ h => h) (Or.inl ⟨by rfl, ?_⟩) hHeld ?_ ?_
                  rotate_left
                  ·rintro w' ⟨s0, s1, s2, s3, s4, s5, s6, s7⟩
                   go_simp
                   with_reducible rfl
                  rotate_left
                  ·simp only [Act.put, List.setIfInBounds_toArray, List.set_cons_zero, List.set_cons_succ, i64_w, i32_w]
                   rfl
                  refine one_ (i := 5) (N := some 87) #[true, true, true, true, true, true, false, false, true, true, true, false, false, false] rfl rfl (one_of HT_.out (by kernel_rfl)) (by decide) (fun K hK => ?_)
                  refine goes_ Try.func31 (by kernel_rfl) rfl #[.int .i64 a0_6] (by rfl) rfl rfl zA ?_
                  with_reducible refine (turntableref37_small.calls kj34 a0_6 t228 _ A57.out).mono ?_
                  rintro e w63 ⟨rfl, hb⟩
                  refine ⟨_, rfl, ?_⟩
                  have n0_ := Aside0.mk (blk_below (g := gb218) (o := .cells #[.int .i64 a0_0, .int .i64 a0_1, .int .i64 a0_2, .int .i64 a0_3, .int .i64 a0_4, .slice A0_5 l0_5.length c0_5, .int .i64 a0_6, .int .i64 a0_7] 37 (0, 0)) (zK BK218.out) hb)
                  have n1_ := Aside0.mk (below_step (zC HB.out GE218.out) hb)
                  clear BK218
                  clear HB
                  have BK218 := n0_
                  have HB := n1_
                  clear n0_ n1_
                  (try clear hb)
                  (try clear hb2)
                  (try clear hk)
                  (try clear hi)
                  refine hK.out _ _ ⟨(blk_cell BK218.out 0).trans rfl, (blk_cell BK218.out 1).trans rfl, (blk_cell BK218.out 2).trans rfl, (blk_cell BK218.out 3).trans rfl, (blk_cell BK218.out 4).trans rfl, (blk_cell BK218.out 5).trans rfl, (blk_cell BK218.out 6).trans rfl, (blk_cell BK218.out 7).trans rfl⟩ (fun hHeld => ?_)
                  clear hK K
                  refine norm_ (a' := ?_) ?_ ?_
                  rotate_left
                  ·show Act.put _ (some 87) _ = _
                   simp only [Act.put, List.setIfInBounds_toArray, List.set_cons_zero, List.set_cons_succ, i64_w, i32_w]
                   rfl
                  refine pure_ (i := 6) (N := some 88) (v := ?_) (a' := ?_) #[true, true, true, true, true, true, true, false, true, true, true, false, false, false] rfl rfl (any_of HT_.out (by kernel_rfl)) (fun _ _ _ h => h) (Or.inl ⟨by rfl, ?_⟩) ?_ ?_
                  rotate_left
                  ·intro w'
                   go_simp
                   with_reducible rfl
                  rotate_left
                  ·simp only [Act.put, List.setIfInBounds_toArray, List.set_cons_zero, List.set_cons_succ, i64_w, i32_w]
                   rfl
                  refine pure_ (i := 7) (N := some 89) (v := ?_) (a' := ?_) #[true, true, true, true, true, true, true, true, true, true, true, false, false, false] rfl rfl (any_of HT_.out (by kernel_rfl)) (fun _ _ _ h => h) (Or.inl ⟨by rfl, ?_⟩) ?_ ?_
                  rotate_left
                  ·intro w'
                   go_simp
                   with_reducible rfl
                  rotate_left
                  ·simp only [Act.put, List.setIfInBounds_toArray, List.set_cons_zero, List.set_cons_succ, i64_w, i32_w]
                   rfl
                  refine one_ (i := 11) (N := some 93) #[true, true, true, true, true, true, true, true, true, true, true, true, false, false] rfl rfl (one_of HT_.out (by kernel_rfl)) (by decide) (fun K hK => ?_)
                  refine goes_ Try.func31 (by kernel_rfl) rfl #[.int .i64 a0_7] (by rfl) rfl rfl zA ?_
                  with_reducible refine (turntableref37_small.calls kj34 a0_7 t229 _ A60.out).mono ?_
                  rintro e w64 ⟨rfl, hb⟩
                  refine ⟨_, rfl, ?_⟩
                  have n0_ := Aside0.mk (blk_below (g := gb218) (o := .cells #[.int .i64 a0_0, .int .i64 a0_1, .int .i64 a0_2, .int .i64 a0_3, .int .i64 a0_4, .slice A0_5 l0_5.length c0_5, .int .i64 a0_6, .int .i64 a0_7] 37 (0, 0)) (zK BK218.out) hb)
                  have n1_ := Aside0.mk (below_step (zC HB.out GE218.out) hb)
                  clear BK218
                  clear HB
                  have BK218 := n0_
                  have HB := n1_
                  clear n0_ n1_
                  (try clear hb)
                  (try clear hb2)
                  (try clear hk)
                  (try clear hi)
                  refine hK.out _ _ ⟨(blk_cell BK218.out 0).trans rfl, (blk_cell BK218.out 1).trans rfl, (blk_cell BK218.out 2).trans rfl, (blk_cell BK218.out 3).trans rfl, (blk_cell BK218.out 4).trans rfl, (blk_cell BK218.out 5).trans rfl, (blk_cell BK218.out 6).trans rfl, (blk_cell BK218.out 7).trans rfl⟩ (fun hHeld => ?_)
                  clear hK K
                  refine norm_ (a' := ?_) ?_ ?_
                  rotate_left
                  ·show Act.put _ (some 93) _ = _
                   simp only [Act.put, List.setIfInBounds_toArray, List.set_cons_zero, List.set_cons_succ, i64_w, i32_w]
                   rfl
                  refine pure_ (i := 12) (N := some 94) (v := ?_) (a' := ?_) #[true, true, true, true, true, true, true, true, true, true, true, true, true, false] rfl rfl (any_of HT_.out (by kernel_rfl)) (fun _ _ _ h => h) (Or.inl ⟨by rfl, ?_⟩) ?_ ?_
                  rotate_left
                  ·intro w'
                   go_simp
                   with_reducible rfl
                  rotate_left
                  ·simp only [Act.put, List.setIfInBounds_toArray, List.set_cons_zero, List.set_cons_succ, i64_w, i32_w]
                   rfl
                  refine pure_ (i := 13) (N := some 3) (v := ?_) (a' := ?_) #[true, true, true, true, true, true, true, true, true, true, true, true, true, true] rfl rfl (any_of HT_.out (by kernel_rfl)) (fun _ _ _ h => h) (Or.inl ⟨by rfl, ?_⟩) ?_ ?_
                  rotate_left
                  ·intro w'
                   go_simp
                   with_reducible rfl
                  rotate_left
                  ·simp only [Act.put, List.setIfInBounds_toArray, List.set_cons_zero, List.set_cons_succ, i64_w, i32_w]
                   rfl
                  refine done_ (done_of HT_.out (by kernel_rfl)) ?_
                  try go_wp2
                  go_roundg kj34
                  case measure => have := HK1.out; have := HJ34.out; omega
                  case rel => exact ⟨((((x3_1 ++ (⟨#[32, 64]⟩ : ByteArray)) ++ t228) ++ (⟨#[32, 64]⟩ : ByteArray)) ++ t229), (wrap64 (x5_1 + 1)), (by first | rfl | (simp; done) | (simp [*]; done)), (by first | rfl | (simp; done) | (simp [*]; done)), H', ⟨by have := HK1.out; have := HJ34.out; omega⟩, ⟨zK BK218.out⟩, ⟨zC HB.out GE218.out⟩⟩
                 ·rw [if_neg c61] at H
                  exact absurd H (by simp)
                ·rw [if_neg c59] at H
                 exact absurd H (by simp)
               ·rw [if_neg c58] at H
                exact absurd H (by simp)
              ·rw [if_neg c56] at H
               exact absurd H (by simp)
             ·rw [if_neg c55] at H
              have c55b0 : ((bt t220 x5_1) == 116) = false := beq_eq_false_iff_ne.mpr c55
              have c55b1 : ((bt t220 x5_1) != 116) = true := bne_iff_ne.mpr c55
              have H' := Aside0.mk H
              clear H
              go_wp2
              go_roundg kj34
              case measure => have := HK1.out; have := HJ34.out; omega
              case rel => exact ⟨(x3_1), (wrap64 (x5_1 + 1)), (by first | rfl | (simp; done) | (simp [*]; done)), (by first | rfl | (simp; done) | (simp [*]; done)), H', ⟨by have := HK1.out; have := HJ34.out; omega⟩, ⟨zK BK218.out⟩, ⟨zC HB.out GE218.out⟩⟩
    ·rw [if_neg c9] at H
     exact absurd H (by simp)
   ·rw [if_neg c8] at H
    have c8b0 : decide (x5_1 < (t220.size : Int)) = false := decide_eq_false c8
    clear c8
    obtain rfl := Option.some.inj H
    go_wp2
    go_ret
    exact ⟨zF, zC HB.out GE218.out⟩
end Go.Proofs.Ytkgjbdbhpohkiaa.PLi
end
