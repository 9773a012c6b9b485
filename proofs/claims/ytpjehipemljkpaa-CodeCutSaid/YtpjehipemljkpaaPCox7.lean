-- PRINTED by a turned copy of the kit's print (patch_print.py); not typed by hand. Lean checks it.
import Derived.Test.YtpjehipemljkpaaPCox0
import Derived.Test.YtpjehipemljkpaaPCox4
import Derived.Test.YtpjehipemljkpaaPCox5
import Derived.Test.YtpjehipemljkpaaPCox6
import Derived.Test.YtpjehipemljkpaaZip
namespace Go.Proofs.Ytpjehipemljkpaa.PCo
open Go.RowKit Go.Proofs.YtpjehipemljkpaaW.PrintWords Go.Proofs.YtpjehipemljkpaaW.PrintLast Go.Proofs.YtpjehipemljkpaaW.PrintMore Go.Proofs.Ytpjehipemljkpaa.Zip
attribute [local go_sem] max2_int min2_int max_two min_two max_three min_three max_four min_four   -- for this text's walks alone
set_option linter.unusedVariables false
set_option linter.unusedSimpArgs false

/-! ### code_Read: function 15 -/
mutual
def code_Read.l0 : Nat → List Int → List (S47) → Int → List Int → Int → Int → Int → Option ((List (S47)) × Int × Int)
 | 0, _, _, _, _, _, _, _ => none
 | k + 1, x0, x5, x6, x203000, x203001, x203002, x203003 => if x6 > 0 then (code_Read.j1 k x0 x5 x6 (x203002 == 0) x203000 x203001 x203002 x203003) else (code_Read.j1 k x0 x5 x6 false x203000 x203001 x203002 x203003)
def code_Read.j1 : Nat → List Int → List (S47) → Int → Bool → List Int → Int → Int → Int → Option ((List (S47)) × Int × Int)
 | 0, _, _, _, _, _, _, _, _ => none
 | k + 1, x0, x5, x6, x24, x203000, x203001, x203002, x203003 => if x24 = true then ((code_reader_slots.f k x203000 x203001 x203002 x203003).bind fun bt207 => ((code_reader_upto.f k x203000 bt207.2.1 bt207.2.2.1 bt207.2.2.2 4096).bind fun bt213 => ((code_reader_upto.f k x203000 bt213.2.1 bt213.2.2.1 bt213.2.2.2 65536).bind fun bt218 => (code_Read.l1 k x0 x5 x6 bt218.1 x203000 bt218.2.1 bt218.2.2.1 bt218.2.2.2 bt207.1 bt213.1 ([] : List (S51)))))) else (if x203002 = 0 then (code_Read.j3 k x0 x5 (decide (x203001 < (x0.length : Int))) x203000 x203001 x203002 x203003) else (code_Read.j3 k x0 x5 false x203000 x203001 x203002 x203003))
def code_Read.l1 : Nat → List Int → List (S47) → Int → Int → List Int → Int → Int → Int → List Int → Int → List (S51) → Option ((List (S47)) × Int × Int)
 | 0, _, _, _, _, _, _, _, _, _, _, _ => none
 | k + 1, x0, x5, x6, x8, x203000, x203001, x203002, x203003, x218000, x218001, x218002 => if x8 > 0 then (if x203002 = 0 then ((code_reader_inst.f k x203000 x203001 x203002 x203003).bind fun bt222 => (if x218002.length < 1759218604441 then (code_Read.l1 k x0 x5 x6 (wrap64 (x8 - 1)) x203000 bt222.2.2.2.2.2.2.2.2.1 bt222.2.2.2.2.2.2.2.2.2.1 bt222.2.2.2.2.2.2.2.2.2.2 x218000 x218001 (x218002 ++ [(⟨bt222.1, bt222.2.1, bt222.2.2.1, bt222.2.2.2.1, bt222.2.2.2.2.1, bt222.2.2.2.2.2.1, (⟨bt222.2.2.2.2.2.2.1, bt222.2.2.2.2.2.2.2.1⟩ : S49)⟩ : S51)])) else (none))) else (if x5.length < 2513169434916 then (code_Read.l0 k x0 (x5 ++ [(⟨x218000, x218001, x218002⟩ : S47)]) (wrap64 (x6 - 1)) x203000 x203001 x203002 x203003) else (none))) else (if x5.length < 2513169434916 then (code_Read.l0 k x0 (x5 ++ [(⟨x218000, x218001, x218002⟩ : S47)]) (wrap64 (x6 - 1)) x203000 x203001 x203002 x203003) else (none))
def code_Read.j3 : Nat → List Int → List (S47) → Bool → List Int → Int → Int → Int → Option ((List (S47)) × Int × Int)
 | 0, _, _, _, _, _, _, _ => none
 | k + 1, x0, x5, x71, x203000, x203001, x203002, x203003 => if x71 = true then ((code_reader_fail.f x203000 x203001 x203002 x203003 1 x203001).bind fun bt244 => (code_Read.j4 k x0 x5 x203000 bt244.1 bt244.2.1 bt244.2.2)) else (code_Read.j4 k x0 x5 x203000 x203001 x203002 x203003)
def code_Read.j4 : Nat → List Int → List (S47) → List Int → Int → Int → Int → Option ((List (S47)) × Int × Int)
 | 0, _, _, _, _, _, _ => none
 | k + 1, x0, x5, x203000, x203001, x203002, x203003 => if x203002 = 0 then ((code_Check.f k x5).bind fun bt247 => (if bt247.1 = 0 then (some (x5, 0, 0)) else (some (([] : List (S47)), bt247.1, wrap64 ((x0.length : Int) + bt247.2))))) else (some (([] : List (S47)), x203002, x203003))
end
def code_Read.f (k : Nat) (l0 : List Int) : Option ((List (S47)) × Int × Int) := (code_reader_upto.f k l0 0 0 0 32).bind fun bt203 => (code_Read.l0 k l0 ([] : List (S47)) bt203.1 l0 bt203.2.1 bt203.2.2.1 bt203.2.2.2)
theorem code_Read.mono_l : ∀ k, (∀ y0 y1 y2 y3 y4 y5 y6, LeO (code_Read.l0 k y0 y1 y2 y3 y4 y5 y6) (code_Read.l0 (k + 1) y0 y1 y2 y3 y4 y5 y6)) ∧ (∀ y0 y1 y2 y3 y4 y5 y6 y7, LeO (code_Read.j1 k y0 y1 y2 y3 y4 y5 y6 y7) (code_Read.j1 (k + 1) y0 y1 y2 y3 y4 y5 y6 y7)) ∧ (∀ y0 y1 y2 y3 y4 y5 y6 y7 y8 y9 y10, LeO (code_Read.l1 k y0 y1 y2 y3 y4 y5 y6 y7 y8 y9 y10) (code_Read.l1 (k + 1) y0 y1 y2 y3 y4 y5 y6 y7 y8 y9 y10)) ∧ (∀ y0 y1 y2 y3 y4 y5 y6, LeO (code_Read.j3 k y0 y1 y2 y3 y4 y5 y6) (code_Read.j3 (k + 1) y0 y1 y2 y3 y4 y5 y6)) ∧ (∀ y0 y1 y2 y3 y4 y5, LeO (code_Read.j4 k y0 y1 y2 y3 y4 y5) (code_Read.j4 (k + 1) y0 y1 y2 y3 y4 y5))
 | 0 => ⟨fun _ _ _ _ _ _ _ r h => by simp [code_Read.l0] at h, fun _ _ _ _ _ _ _ _ r h => by simp [code_Read.j1] at h, fun _ _ _ _ _ _ _ _ _ _ _ r h => by simp [code_Read.l1] at h, fun _ _ _ _ _ _ _ r h => by simp [code_Read.j3] at h, fun _ _ _ _ _ _ r h => by simp [code_Read.j4] at h⟩
 | k + 1 => by
  obtain ⟨ih0, ih1, ih2, ih3, ih4⟩ := code_Read.mono_l k
  refine ⟨?_, ?_, ?_, ?_, ?_⟩
  ·intro y0 y1 y2 y3 y4 y5 y6
   unfold code_Read.l0
   repeat' first
   | (with_reducible exact ih0 _ _ _ _ _ _ _)
   | (with_reducible exact ih1 _ _ _ _ _ _ _ _)
   | (with_reducible exact ih2 _ _ _ _ _ _ _ _ _ _ _)
   | (with_reducible exact ih3 _ _ _ _ _ _ _)
   | (with_reducible exact ih4 _ _ _ _ _ _)
   | (with_reducible exact code_Check.mono _ _)
   | (with_reducible exact code_reader_inst.mono _ _ _ _ _)
   | (with_reducible exact code_reader_slots.mono _ _ _ _ _)
   | (with_reducible exact code_reader_upto.mono _ _ _ _ _ _)
   | (with_reducible exact LeO.refl _)
   | (with_reducible exact LeO.none _)
   | (with_reducible refine LeO.ite ?_ ?_)
   | (with_reducible refine LeO.bind ?_ (fun _ => ?_))
   | exact ih0 _ _ _ _ _ _ _
   | exact ih1 _ _ _ _ _ _ _ _
   | exact ih2 _ _ _ _ _ _ _ _ _ _ _
   | exact ih3 _ _ _ _ _ _ _
   | exact ih4 _ _ _ _ _ _
   | exact code_Check.mono _ _
   | exact code_reader_inst.mono _ _ _ _ _
   | exact code_reader_slots.mono _ _ _ _ _
   | exact code_reader_upto.mono _ _ _ _ _ _
   | exact LeO.none _
   | refine LeO.ite ?_ ?_
   | refine LeO.bind ?_ (fun _ => ?_)
  ·intro y0 y1 y2 y3 y4 y5 y6 y7
   unfold code_Read.j1
   repeat' first
   | (with_reducible exact ih0 _ _ _ _ _ _ _)
   | (with_reducible exact ih1 _ _ _ _ _ _ _ _)
   | (with_reducible exact ih2 _ _ _ _ _ _ _ _ _ _ _)
   | (with_reducible exact ih3 _ _ _ _ _ _ _)
   | (with_reducible exact ih4 _ _ _ _ _ _)
   | (with_reducible exact code_Check.mono _ _)
   | (with_reducible exact code_reader_inst.mono _ _ _ _ _)
   | (with_reducible exact code_reader_slots.mono _ _ _ _ _)
   | (with_reducible exact code_reader_upto.mono _ _ _ _ _ _)
   | (with_reducible exact LeO.refl _)
   | (with_reducible exact LeO.none _)
   | (with_reducible refine LeO.ite ?_ ?_)
   | (with_reducible refine LeO.bind ?_ (fun _ => ?_))
   | exact ih0 _ _ _ _ _ _ _
   | exact ih1 _ _ _ _ _ _ _ _
   | exact ih2 _ _ _ _ _ _ _ _ _ _ _
   | exact ih3 _ _ _ _ _ _ _
   | exact ih4 _ _ _ _ _ _
   | exact code_Check.mono _ _
   | exact code_reader_inst.mono _ _ _ _ _
   | exact code_reader_slots.mono _ _ _ _ _
   | exact code_reader_upto.mono _ _ _ _ _ _
   | exact LeO.none _
   | refine LeO.ite ?_ ?_
   | refine LeO.bind ?_ (fun _ => ?_)
  ·intro y0 y1 y2 y3 y4 y5 y6 y7 y8 y9 y10
   unfold code_Read.l1
   repeat' first
   | (with_reducible exact ih0 _ _ _ _ _ _ _)
   | (with_reducible exact ih1 _ _ _ _ _ _ _ _)
   | (with_reducible exact ih2 _ _ _ _ _ _ _ _ _ _ _)
   | (with_reducible exact ih3 _ _ _ _ _ _ _)
   | (with_reducible exact ih4 _ _ _ _ _ _)
   | (with_reducible exact code_Check.mono _ _)
   | (with_reducible exact code_reader_inst.mono _ _ _ _ _)
   | (with_reducible exact code_reader_slots.mono _ _ _ _ _)
   | (with_reducible exact code_reader_upto.mono _ _ _ _ _ _)
   | (with_reducible exact LeO.refl _)
   | (with_reducible exact LeO.none _)
   | (with_reducible refine LeO.ite ?_ ?_)
   | (with_reducible refine LeO.bind ?_ (fun _ => ?_))
   | exact ih0 _ _ _ _ _ _ _
   | exact ih1 _ _ _ _ _ _ _ _
   | exact ih2 _ _ _ _ _ _ _ _ _ _ _
   | exact ih3 _ _ _ _ _ _ _
   | exact ih4 _ _ _ _ _ _
   | exact code_Check.mono _ _
   | exact code_reader_inst.mono _ _ _ _ _
   | exact code_reader_slots.mono _ _ _ _ _
   | exact code_reader_upto.mono _ _ _ _ _ _
   | exact LeO.none _
   | refine LeO.ite ?_ ?_
   | refine LeO.bind ?_ (fun _ => ?_)
  ·intro y0 y1 y2 y3 y4 y5 y6
   unfold code_Read.j3
   repeat' first
   | (with_reducible exact ih0 _ _ _ _ _ _ _)
   | (with_reducible exact ih1 _ _ _ _ _ _ _ _)
   | (with_reducible exact ih2 _ _ _ _ _ _ _ _ _ _ _)
   | (with_reducible exact ih3 _ _ _ _ _ _ _)
   | (with_reducible exact ih4 _ _ _ _ _ _)
   | (with_reducible exact code_Check.mono _ _)
   | (with_reducible exact code_reader_inst.mono _ _ _ _ _)
   | (with_reducible exact code_reader_slots.mono _ _ _ _ _)
   | (with_reducible exact code_reader_upto.mono _ _ _ _ _ _)
   | (with_reducible exact LeO.refl _)
   | (with_reducible exact LeO.none _)
   | (with_reducible refine LeO.ite ?_ ?_)
   | (with_reducible refine LeO.bind ?_ (fun _ => ?_))
   | exact ih0 _ _ _ _ _ _ _
   | exact ih1 _ _ _ _ _ _ _ _
   | exact ih2 _ _ _ _ _ _ _ _ _ _ _
   | exact ih3 _ _ _ _ _ _ _
   | exact ih4 _ _ _ _ _ _
   | exact code_Check.mono _ _
   | exact code_reader_inst.mono _ _ _ _ _
   | exact code_reader_slots.mono _ _ _ _ _
   | exact code_reader_upto.mono _ _ _ _ _ _
   | exact LeO.none _
   | refine LeO.ite ?_ ?_
   | refine LeO.bind ?_ (fun _ => ?_)
  ·intro y0 y1 y2 y3 y4 y5
   unfold code_Read.j4
   repeat' first
   | (with_reducible exact ih0 _ _ _ _ _ _ _)
   | (with_reducible exact ih1 _ _ _ _ _ _ _ _)
   | (with_reducible exact ih2 _ _ _ _ _ _ _ _ _ _ _)
   | (with_reducible exact ih3 _ _ _ _ _ _ _)
   | (with_reducible exact ih4 _ _ _ _ _ _)
   | (with_reducible exact code_Check.mono _ _)
   | (with_reducible exact code_reader_inst.mono _ _ _ _ _)
   | (with_reducible exact code_reader_slots.mono _ _ _ _ _)
   | (with_reducible exact code_reader_upto.mono _ _ _ _ _ _)
   | (with_reducible exact LeO.refl _)
   | (with_reducible exact LeO.none _)
   | (with_reducible refine LeO.ite ?_ ?_)
   | (with_reducible refine LeO.bind ?_ (fun _ => ?_))
   | exact ih0 _ _ _ _ _ _ _
   | exact ih1 _ _ _ _ _ _ _ _
   | exact ih2 _ _ _ _ _ _ _ _ _ _ _
   | exact ih3 _ _ _ _ _ _ _
   | exact ih4 _ _ _ _ _ _
   | exact code_Check.mono _ _
   | exact code_reader_inst.mono _ _ _ _ _
   | exact code_reader_slots.mono _ _ _ _ _
   | exact code_reader_upto.mono _ _ _ _ _ _
   | exact LeO.none _
   | refine LeO.ite ?_ ?_
   | refine LeO.bind ?_ (fun _ => ?_)
theorem code_Read.mono : ∀ a0 k, LeO (code_Read.f k a0) (code_Read.f (k + 1) a0) := by
 intro a0 k
 obtain ⟨ih0, ih1, ih2, ih3, ih4⟩ := code_Read.mono_l k
 unfold code_Read.f
 repeat' first
   | (with_reducible exact ih0 _ _ _ _ _ _ _)
   | (with_reducible exact ih1 _ _ _ _ _ _ _ _)
   | (with_reducible exact ih2 _ _ _ _ _ _ _ _ _ _ _)
   | (with_reducible exact ih3 _ _ _ _ _ _ _)
   | (with_reducible exact ih4 _ _ _ _ _ _)
   | (with_reducible exact code_Check.mono _ _)
   | (with_reducible exact code_reader_inst.mono _ _ _ _ _)
   | (with_reducible exact code_reader_slots.mono _ _ _ _ _)
   | (with_reducible exact code_reader_upto.mono _ _ _ _ _ _)
   | (with_reducible exact LeO.refl _)
   | (with_reducible exact LeO.none _)
   | (with_reducible refine LeO.ite ?_ ?_)
   | (with_reducible refine LeO.bind ?_ (fun _ => ?_))
   | exact ih0 _ _ _ _ _ _ _
   | exact ih1 _ _ _ _ _ _ _ _
   | exact ih2 _ _ _ _ _ _ _ _ _ _ _
   | exact ih3 _ _ _ _ _ _ _
   | exact ih4 _ _ _ _ _ _
   | exact code_Check.mono _ _
   | exact code_reader_inst.mono _ _ _ _ _
   | exact code_reader_slots.mono _ _ _ _ _
   | exact code_reader_upto.mono _ _ _ _ _ _
   | exact LeO.none _
   | refine LeO.ite ?_ ?_
   | refine LeO.bind ?_ (fun _ => ?_)
def code_Read.T10 : Bool × List (List Nat × List Nat) := (true, [([], []), ([0], [0]), ([], []), ([2], [2]), ([3], [3]), ([1, 4, 3], [1, 4]), ([0, 1, 2, 3, 4, 5], []), ([6, 5, 5, 0, 1, 2, 3, 4, 5], [5, 6])])
def code_Read.B10 : List Nat := [0, 1, 0, 4, 12, 31, 63, 127]
theorem code_Read.tab10 : rtab .any (opsOf Try.f15 10) = code_Read.T10 := by kernel_rfl
theorem code_Read.bits10 : waitsOk code_Read.T10.2 code_Read.B10 = true := by kernel_rfl
def code_Read.T18 : Bool × List (List Nat × List Nat) := (true, [([], []), ([0], [0]), ([], []), ([2], [2]), ([], []), ([4], [4]), ([3, 5], [3, 5]), ([1, 6], [1, 6]), ([], []), ([7, 8, 0, 1, 2, 3, 4, 5, 6, 7, 8], [7])])
def code_Read.B18 : List Nat := [0, 1, 0, 4, 0, 16, 60, 127, 0, 511]
theorem code_Read.tab18 : rtab .any (opsOf Try.f15 18) = code_Read.T18 := by kernel_rfl
theorem code_Read.bits18 : waitsOk code_Read.T18.2 code_Read.B18 = true := by kernel_rfl
set_option maxHeartbeats 8000000 in
set_option maxRecDepth 100000 in
theorem code_Read.calls (k : Nat) (A0 : Option Addr) (c0 : Nat) (l0 : List Int) (r1 : List (S47)) (r2 : Int) (r3 : Int) (w : World) (hr0 : Kd.C (Kd.int .u8) w A0 l0.length l0) (hc0 : l0.length ≤ c0) (h : code_Read.f k l0 = some (r1, r2, r3)) :
  Calls Try.prog 15 #[.slice A0 l0.length c0] w fun e w' => ∃ v0_ : Value, e = .returned (.tuple #[v0_, .agg #[.int .i64 r2, .int .i64 r3]]) ∧ Kd.R k47 47 w' w.heap.size (fun _ => True) v0_ r1 ∧ Below w.heap.size w w' := by
 have hu27 := Try.underlying27
 have hu63 := Try.underlying63
 have hu47 := Try.underlying47
 have HR0 := Aside0.mk hr0
 have HC0 := Aside0.mk hc0
 clear hr0 hc0
 have HB := Aside0.mk (Below.refl w.heap.size w)
 have H : ((code_reader_upto.f k l0 0 0 0 32).bind fun bt203 => (code_Read.l0 k l0 ([] : List (S47)) bt203.1 l0 bt203.2.1 bt203.2.2.1 bt203.2.2.2)) = some (r1, r2, r3) := h
 clear h
 replace H := Option.bind_eq_some_iff.mp H
 obtain ⟨⟨t203, t204, t205, t206⟩, A20, H⟩ := H
 replace H : (code_Read.l0 k l0 ([] : List (S47)) t203 l0 t204 t205 t206) = some (r1, r2, r3) := H
 have A2 := Aside0.mk A20
 clear A20
 have H' := Aside0.mk H
 clear H
 go_enter Try.func15, Try.ntmps15
 go_wp2_with (first | ((with_reducible refine gate_dst (N := 3) rfl ?_); (try (refine gate_guard (by rfl) ?_; dsimp only)); refine box_event ?hg (N := 3) ?hd (cs := #[.int .i64 0, .int .i64 0]) (t := 27) ?hr ?_; (case hd => rfl); (case hg => rfl); (case hr => first | (go_simp; done) | (go_simp; rfl)); intro gb201 hg w3 hbox hb; have n0_ := Aside0.mk (below_step (zB HB.out) hb); have n1_ := Aside0.mk (hbox); have n2_ := Aside0.mk ((by rw [hg]; exact (below_size (zB HB.out)) : w.heap.size ≤ gb201)); have n3_ := Aside0.mk ((by rw [hg]; exact (below_size (zB HB.out)) : w.heap.size ≤ gb201)); clear HB; have HB := n0_; have BK201 := n1_; have GW201 := n2_; have GE201 := n3_; clear n0_ n1_ n2_ n3_; clear hb hbox hg) | ((with_reducible refine gate_dst (N := 12) rfl ?_); (try (refine gate_guard (by rfl) ?_; dsimp only)); refine box_event ?hg (N := 12) ?hd (cs := #[.slice A0 l0.length c0, .int .i64 0, .int .i64 0, .int .i64 0]) (t := 63) ?hr ?_; (case hd => rfl); (case hg => rfl); (case hr => first | (go_simp; done) | (go_simp; rfl)); intro gb202 hg w4 hbox hb; have n0_ := Aside0.mk (blk_below (g := gb201) (o := .cells #[.int .i64 0, .int .i64 0] 27 (0, 0)) (zK BK201.out) hb); have n1_ := Aside0.mk (below_step (zC HB.out GE201.out) hb); have n2_ := Aside0.mk ((show IsS63 w w4 gb202 l0 0 0 0 from ⟨_, _, hbox, (by rw [hg]; exact (below_size (zC HB.out GE201.out))), (HR0.out)⟩)); have n3_ := Aside0.mk ((by rw [hg]; exact Nat.ne_of_lt (blk_lt (g := gb201) (o := .cells #[.int .i64 0, .int .i64 0] 27 (0, 0)) (zK BK201.out)) : gb201 ≠ gb202)); have n4_ := Aside0.mk ((by rw [hg]; exact Nat.ne_of_gt (blk_lt (g := gb201) (o := .cells #[.int .i64 0, .int .i64 0] 27 (0, 0)) (zK BK201.out)) : gb202 ≠ gb201)); clear BK201; clear HB; have BK201 := n0_; have HB := n1_; have HI202 := n2_; have NB201_202 := n3_; have NB202_201 := n4_; clear n0_ n1_ n2_ n3_ n4_; clear hb hbox hg) | ((with_reducible refine gate_callee (f := 36) rfl ?_); refine goesL_ (some 14) rfl rfl Try.func36 (by kernel_rfl) rfl #[.pointer (some ⟨gb202, 0, none⟩), .int .i64 32] rfl zA ?_; (with_reducible refine (code_reader_upto.calls k gb202 l0 0 0 0 32 t203 t204 t205 t206 w _ ?side1 ?side2 A2.out).mono ?_); (case side1 => repeat (first | (with_reducible first | exact HI202.out | apply IsS63.alloc | apply IsS63.drewN | apply IsS63.drew | apply IsS63.set_1 | apply IsS63.set_2 | apply IsS63.set_3 | refine IsS63.far ?_ NB202_201.out _) | exact HI202.out)); (case side2 => repeat (first | (with_reducible first | exact HB.out | apply below_alloc | apply pw_below_drewN | apply below_drew1 | refine below_set ?_ (IsS63.ge HI202.out) | refine below_set ?_ GE201.out) | exact HB.out)); rintro e w5 ⟨rfl, hi, hb, hk⟩; refine ⟨_, rfl, ?_⟩; have n0_ := Aside0.mk (KeepBut.blk hk (g' := gb201) (o := .cells #[.int .i64 0, .int .i64 0] 27 (0, 0)) (zK BK201.out) NB201_202.out (by simp)); have n1_ := Aside0.mk (hb); have n2_ := Aside0.mk (hi); clear BK201; clear HB; clear HI202; have BK201 := n0_; have HB := n1_; have HI202 := n2_; clear n0_ n1_ n2_; (try clear hb); (try clear hb2); (try clear hk); (try clear hi)))
 go_loopg [5, 6] k (fun kq v5 v6 w' => ∃ (x5_1 : List (S47)) (x6_1 : Int) (x203001_1 : Int) (x203002_1 : Int) (x203003_1 : Int), v6 = .int .i64 x6_1 ∧ Aside0 (code_Read.l0 kq l0 x5_1 x6_1 l0 x203001_1 x203002_1 x203003_1 = some (r1, r2, r3)) ∧ Aside0 (kq ≤ k) ∧ Aside0 (Kd.R k47 47 w' w.heap.size (fun _ => True) v5 x5_1) ∧ Aside0 (w'.heap[gb201]? = some (.cells #[.int .i64 0, .int .i64 0] 27 (0, 0))) ∧ Aside0 (IsS63 w w' gb202 l0 x203001_1 x203002_1 x203003_1) ∧ Aside0 (Below w.heap.size w w'))
 case atStart => exact ⟨(([] : List (S47))), (t203), (t204), (t205), (t206), (by first | rfl | (simp; done) | (simp [*]; done)), H', ⟨Nat.le_refl _⟩, ⟨by first | exact Kd.R_nil _ _ _ _ _ | exact Kd.N_nil _ _ _ _ _ | exact Kd.V_nil _ _ _ _ _ | exact Kd.Q_nil _ _ _ _ _ | exact Kd.S_nil _ _ _ _ _⟩, ⟨zK BK201.out⟩, ⟨by repeat (first | (with_reducible first | exact HI202.out | apply IsS63.alloc | apply IsS63.drewN | apply IsS63.drew | apply IsS63.set_1 | apply IsS63.set_2 | apply IsS63.set_3 | refine IsS63.far ?_ NB202_201.out _) | exact HI202.out)⟩, ⟨zD HB.out (IsS63.ge HI202.out) GE201.out⟩⟩
 case round =>
  clear H'
  try clear c1
  try clear p2
  try clear c3
  obtain ⟨x5_1, x6_1, x203001_1, x203002_1, x203003_1, rfl, HA, HK1, HO_5, BK201, HI202, HB⟩ := hrel
  cases gk with
  | zero => exact absurd HA.out (by simp [code_Read.l0])
  | succ k1 =>
   have H := HA.out
   clear HA
   simp only [code_Read.l0] at H
   have HC6 := Aside0.mk H
   clear H
   go_upto_region 4 with (fail)
   go_cut [24] (fun v24 wc => ∃ (kq : Nat) (x24_5 : Bool), v24 = .bool x24_5 ∧ Aside0 (code_Read.j1 kq l0 x5_1 x6_1 x24_5 l0 x203001_1 x203002_1 x203003_1 = some (r1, r2, r3)) ∧ Aside0 (kq ≤ k1) ∧ Aside0 (Kd.R k47 47 wc w.heap.size (fun _ => True) u5 x5_1) ∧ Aside0 (wc.heap[gb201]? = some (.cells #[.int .i64 0, .int .i64 0] 27 (0, 0))) ∧ Aside0 (IsS63 w wc gb202 l0 x203001_1 x203002_1 x203003_1) ∧ Aside0 (Below w.heap.size w wc))
   case first =>
    have H := HC6.out
    clear HC6
    by_cases c7 : x6_1 > 0
    ·rw [if_pos c7] at H
     have c7b0 : decide (0 < x6_1) = true := decide_eq_true c7
     clear c7
     (first | rw [c7b0] | (simp only [i64_w, i32_w]; rw [c7b0]) | skip)
     have H' := Aside0.mk H
     clear H
     obtain ⟨ASz8_0, cSz8_0, HGz8, hgz8, HSz8_0⟩ := HI202.out
     have hcz8_0 := cellS63_0 HGz8
     have hcz8_1 := cellS63_1 HGz8
     have hcz8_2 := cellS63_2 HGz8
     have hcz8_3 := cellS63_3 HGz8
     have hfz8_1 := blk_frozen HGz8 1
     have hfz8_2 := blk_frozen HGz8 2
     have hfz8_3 := blk_frozen HGz8 3
     clear HGz8 hgz8
     go_wp2
     go_meet
     case rel => exact ⟨_, ((x203002_1 == 0)), (by first | rfl | (simp; done) | (simp [*]; done)), H', ⟨by have := HK1.out; first | omega | exact Nat.le_refl _⟩, ⟨zR HO_5.out⟩, ⟨zK BK201.out⟩, ⟨by repeat (first | (with_reducible first | exact HI202.out | apply IsS63.alloc | apply IsS63.drewN | apply IsS63.drew | apply IsS63.set_1 | apply IsS63.set_2 | apply IsS63.set_3 | refine IsS63.far ?_ NB202_201.out _) | exact HI202.out)⟩, ⟨zD HB.out (IsS63.ge HI202.out) GE201.out⟩⟩
    ·rw [if_neg c7] at H
     have c7b0 : decide (0 < x6_1) = false := decide_eq_false c7
     clear c7
     (first | rw [c7b0] | (simp only [i64_w, i32_w]; rw [c7b0]) | skip)
     have H' := Aside0.mk H
     clear H
     go_wp2
     go_meet
     case rel => exact ⟨_, (false), (by first | rfl | (simp; done) | (simp [*]; done)), H', ⟨by have := HK1.out; first | omega | exact Nat.le_refl _⟩, ⟨zR HO_5.out⟩, ⟨zK BK201.out⟩, ⟨by repeat (first | (with_reducible first | exact HI202.out | apply IsS63.alloc | apply IsS63.drewN | apply IsS63.drew | apply IsS63.set_1 | apply IsS63.set_2 | apply IsS63.set_3 | refine IsS63.far ?_ NB202_201.out _) | exact HI202.out)⟩, ⟨zD HB.out (IsS63.ge HI202.out) GE201.out⟩⟩
   case rest =>
    clear HC6
    try clear c1
    try clear p2
    try clear c3
    try clear c7
    try clear c7b0
    try clear hcz8_0
    try clear hcz8_1
    try clear hcz8_2
    try clear hcz8_3
    try clear hfz8_1
    try clear hfz8_2
    try clear hfz8_3
    try clear p2
    obtain ⟨kq, x24_5, rfl, HA, HJ5, HO_5, BK201, HI202, HB⟩ := hcut
    cases kq with
    | zero => exact absurd HA.out (by simp [code_Read.j1])
    | succ kj5 =>
     have H := HA.out
     clear HA
     simp only [code_Read.j1] at H
     by_cases c9 : x24_5 = true
     ·subst c9
      have H1 : ((code_reader_slots.f kj5 l0 x203001_1 x203002_1 x203003_1).bind fun bt207 => ((code_reader_upto.f kj5 l0 bt207.2.1 bt207.2.2.1 bt207.2.2.2 4096).bind fun bt213 => ((code_reader_upto.f kj5 l0 bt213.2.1 bt213.2.2.1 bt213.2.2.2 65536).bind fun bt218 => (code_Read.l1 kj5 l0 x5_1 x6_1 bt218.1 l0 bt218.2.1 bt218.2.2.1 bt218.2.2.2 bt207.1 bt213.1 ([] : List (S51)))))) = some (r1, r2, r3) := by rw [if_pos rfl] at H; exact H
      clear H
      have H := H1
      clear H1
      replace H := Option.bind_eq_some_iff.mp H
      obtain ⟨⟨t207, t210, t211, t212⟩, A100, H⟩ := H
      replace H : ((code_reader_upto.f kj5 l0 t210 t211 t212 4096).bind fun bt213 => ((code_reader_upto.f kj5 l0 bt213.2.1 bt213.2.2.1 bt213.2.2.2 65536).bind fun bt218 => (code_Read.l1 kj5 l0 x5_1 x6_1 bt218.1 l0 bt218.2.1 bt218.2.2.1 bt218.2.2.2 t207 bt213.1 ([] : List (S51))))) = some (r1, r2, r3) := H
      have A10 := Aside0.mk A100
      clear A100
      replace H := Option.bind_eq_some_iff.mp H
      obtain ⟨⟨t213, t214, t215, t216⟩, A110, H⟩ := H
      replace H : ((code_reader_upto.f kj5 l0 t214 t215 t216 65536).bind fun bt218 => (code_Read.l1 kj5 l0 x5_1 x6_1 bt218.1 l0 bt218.2.1 bt218.2.2.1 bt218.2.2.2 t207 t213 ([] : List (S51)))) = some (r1, r2, r3) := H
      have A11 := Aside0.mk A110
      clear A110
      replace H := Option.bind_eq_some_iff.mp H
      obtain ⟨⟨t218, t219, t220, t221⟩, A120, H⟩ := H
      replace H : (code_Read.l1 kj5 l0 x5_1 x6_1 t218 l0 t219 t220 t221 t207 t213 ([] : List (S51))) = some (r1, r2, r3) := H
      have A12 := Aside0.mk A120
      clear A120
      have H' := Aside0.mk H
      clear H
      go_wp2_with (first | ((with_reducible refine gate_callee (f := 37) rfl ?_); refine goesL_ (some 28) rfl rfl Try.func37 (by kernel_rfl) rfl #[.pointer (some ⟨gb202, 0, none⟩)] rfl zA ?_; (with_reducible refine (code_reader_slots.calls kj5 gb202 l0 x203001_1 x203002_1 x203003_1 t207 t210 t211 t212 w _ ?side1 ?side2 A10.out).mono ?_); (case side1 => repeat (first | (with_reducible first | exact HI202.out | apply IsS63.alloc | apply IsS63.drewN | apply IsS63.drew | apply IsS63.set_1 | apply IsS63.set_2 | apply IsS63.set_3 | refine IsS63.far ?_ NB202_201.out _) | exact HI202.out)); (case side2 => repeat (first | (with_reducible first | exact HB.out | apply below_alloc | apply pw_below_drewN | apply below_drew1 | refine below_set ?_ (IsS63.ge HI202.out) | refine below_set ?_ GE201.out) | exact HB.out)); rintro e w13 ⟨v208, rfl, ho0, hi, hb, hk⟩; refine ⟨_, rfl, ?_⟩; have n0_ := Aside0.mk (Kd.R_mono (Kd.R_told (Kd.R_oldK (IsS63.apart (show IsS63 w _ gb202 l0 x203001_1 x203002_1 x203003_1 from by repeat (first | (with_reducible first | exact HI202.out | apply IsS63.alloc | apply IsS63.drewN | apply IsS63.drew | apply IsS63.set_1 | apply IsS63.set_2 | apply IsS63.set_3 | refine IsS63.far ?_ NB202_201.out _) | exact HI202.out)) (zR HO_5.out) (by decide)) hk) (Kd.R_base ho0)) (fun _ h_ => h_.1)); have n1_ := Aside0.mk (KeepBut.blk hk (g' := gb201) (o := .cells #[.int .i64 0, .int .i64 0] 27 (0, 0)) (zK BK201.out) NB201_202.out (by simp)); have n2_ := Aside0.mk (Kd.R_lower ho0 (below_size (zD HB.out (IsS63.ge HI202.out) GE201.out))); have n3_ := Aside0.mk (hb); have n4_ := Aside0.mk (hi); clear HO_5; clear BK201; clear HB; clear HI202; have HO_5 := n0_; have BK201 := n1_; have HO209 := n2_; have HB := n3_; have HI202 := n4_; clear n0_ n1_ n2_ n3_ n4_; (try clear hb); (try clear hb2); (try clear hk); (try clear hi); (try clear ho0)) | ((with_reducible refine gate_callee (f := 36) rfl ?_); refine goesL_ (some 30) rfl rfl Try.func36 (by kernel_rfl) rfl #[.pointer (some ⟨gb202, 0, none⟩), .int .i64 4096] rfl zA ?_; (with_reducible refine (code_reader_upto.calls kj5 gb202 l0 t210 t211 t212 4096 t213 t214 t215 t216 w _ ?side1 ?side2 A11.out).mono ?_); (case side1 => repeat (first | (with_reducible first | exact HI202.out | apply IsS63.alloc | apply IsS63.drewN | apply IsS63.drew | apply IsS63.set_1 | apply IsS63.set_2 | apply IsS63.set_3 | refine IsS63.far ?_ NB202_201.out _) | exact HI202.out)); (case side2 => repeat (first | (with_reducible first | exact HB.out | apply below_alloc | apply pw_below_drewN | apply below_drew1 | refine below_set ?_ (IsS63.ge HI202.out) | refine below_set ?_ GE201.out) | exact HB.out)); rintro e w14 ⟨rfl, hi, hb, hk⟩; refine ⟨_, rfl, ?_⟩; have n0_ := Aside0.mk (Kd.R_mono (Kd.R_keep (IsS63.apart (show IsS63 w _ gb202 l0 t210 t211 t212 from by repeat (first | (with_reducible first | exact HI202.out | apply IsS63.alloc | apply IsS63.drewN | apply IsS63.drew | apply IsS63.set_1 | apply IsS63.set_2 | apply IsS63.set_3 | refine IsS63.far ?_ NB202_201.out _) | exact HI202.out)) (zR HO_5.out) (by decide)) hk (fun _ h => h.2)) (fun _ h => h.1)); have n1_ := Aside0.mk (KeepBut.blk hk (g' := gb201) (o := .cells #[.int .i64 0, .int .i64 0] 27 (0, 0)) (zK BK201.out) NB201_202.out (by simp)); have n2_ := Aside0.mk (Kd.R_mono (Kd.R_keep (IsS63.apart (show IsS63 w _ gb202 l0 t210 t211 t212 from by repeat (first | (with_reducible first | exact HI202.out | apply IsS63.alloc | apply IsS63.drewN | apply IsS63.drew | apply IsS63.set_1 | apply IsS63.set_2 | apply IsS63.set_3 | refine IsS63.far ?_ NB202_201.out _) | exact HI202.out)) (zR HO209.out) (by decide)) hk (fun _ h => h.2)) (fun _ h => h.1)); have n3_ := Aside0.mk (hb); have n4_ := Aside0.mk (hi); clear HO_5; clear BK201; clear HO209; clear HB; clear HI202; have HO_5 := n0_; have BK201 := n1_; have HO209 := n2_; have HB := n3_; have HI202 := n4_; clear n0_ n1_ n2_ n3_ n4_; (try clear hb); (try clear hb2); (try clear hk); (try clear hi); obtain ⟨Ao15, co15, eo15⟩ := Kd.R_slice HO209.out; subst eo15) | ((with_reducible refine gate_dst (N := 7) rfl ?_); (try (refine gate_guard (by rfl) ?_; dsimp only)); refine box_event ?hg (N := 7) ?hd (cs := #[.slice none 0 0, .int .i64 0, .slice none 0 0]) (t := 47) ?hr ?_; (case hd => rfl); (case hg => rfl); (case hr => first | (go_simp; done) | (go_simp; rfl)); intro gb217 hg w16 hbox hb; have n0_ := Aside0.mk (Kd.R_below (Kd.R_elderB (zR HO_5.out) gb217 (Nat.le_of_eq hg.symm)) hb); have n1_ := Aside0.mk (Kd.R_below (zR HO209.out) hb); have n2_ := Aside0.mk (blk_below (g := gb201) (o := .cells #[.int .i64 0, .int .i64 0] 27 (0, 0)) (zK BK201.out) hb); have n3_ := Aside0.mk (IsS63.below (by repeat (first | (with_reducible first | exact HI202.out | apply IsS63.alloc | apply IsS63.drewN | apply IsS63.drew | apply IsS63.set_1 | apply IsS63.set_2 | apply IsS63.set_3 | refine IsS63.far ?_ NB202_201.out _) | exact HI202.out)) hb); have n4_ := Aside0.mk (below_step (zD HB.out (IsS63.ge HI202.out) GE201.out) hb); have n5_ := Aside0.mk (hbox); have n6_ := Aside0.mk ((by rw [hg]; exact (below_size (zD HB.out (IsS63.ge HI202.out) GE201.out)) : w.heap.size ≤ gb217)); have n7_ := Aside0.mk ((by rw [hg]; exact (below_size (zD HB.out (IsS63.ge HI202.out) GE201.out)) : w.heap.size ≤ gb217)); have n8_ := Aside0.mk ((by rw [hg]; exact Nat.ne_of_lt (blk_lt (g := gb201) (o := .cells #[.int .i64 0, .int .i64 0] 27 (0, 0)) (zK BK201.out)) : gb201 ≠ gb217)); have n9_ := Aside0.mk ((by rw [hg]; exact Nat.ne_of_gt (blk_lt (g := gb201) (o := .cells #[.int .i64 0, .int .i64 0] 27 (0, 0)) (zK BK201.out)) : gb217 ≠ gb201)); have n10_ := Aside0.mk ((by rw [hg]; exact Nat.ne_of_lt (IsS63.lt (show IsS63 w _ gb202 l0 t214 t215 t216 from by repeat (first | (with_reducible first | exact HI202.out | apply IsS63.alloc | apply IsS63.drewN | apply IsS63.drew | apply IsS63.set_1 | apply IsS63.set_2 | apply IsS63.set_3 | refine IsS63.far ?_ NB202_201.out _) | exact HI202.out))) : gb202 ≠ gb217)); have n11_ := Aside0.mk ((by rw [hg]; exact Nat.ne_of_gt (IsS63.lt (show IsS63 w _ gb202 l0 t214 t215 t216 from by repeat (first | (with_reducible first | exact HI202.out | apply IsS63.alloc | apply IsS63.drewN | apply IsS63.drew | apply IsS63.set_1 | apply IsS63.set_2 | apply IsS63.set_3 | refine IsS63.far ?_ NB202_201.out _) | exact HI202.out))) : gb217 ≠ gb202)); clear HO_5; clear HO209; clear BK201; clear HI202; clear HB; have HO_5 := n0_; have HO209 := n1_; have BK201 := n2_; have HI202 := n3_; have HB := n4_; have BK217 := n5_; have GW217 := n6_; have GE217 := n7_; have NB201_217 := n8_; have NB217_201 := n9_; have NB202_217 := n10_; have NB217_202 := n11_; clear n0_ n1_ n2_ n3_ n4_ n5_ n6_ n7_ n8_ n9_ n10_ n11_; clear hb hbox hg; have hnb17 := NB217_201.out; have hnc17 := NB201_217.out; have hnb18 := NB217_202.out; have hnc18 := NB202_217.out; have hcz19_0 : w16.cell? ⟨gb217, 0, none⟩ = some (.slice none 0 0) := (blk_cell BK217.out 0).trans rfl; have hcz19_1 : w16.cell? ⟨gb217, 1, none⟩ = some (.int .i64 0) := (blk_cell BK217.out 1).trans rfl; have hcz19_2 : w16.cell? ⟨gb217, 2, none⟩ = some (.slice none 0 0) := (blk_cell BK217.out 2).trans rfl; have hfz19_0 := blk_frozen BK217.out 0; have hfz19_1 := blk_frozen BK217.out 1; have hfz19_2 := blk_frozen BK217.out 2) | ((with_reducible refine gate_callee (f := 36) rfl ?_); refine goesL_ (some 33) rfl rfl Try.func36 (by kernel_rfl) rfl #[.pointer (some ⟨gb202, 0, none⟩), .int .i64 65536] rfl zA ?_; (with_reducible refine (code_reader_upto.calls kj5 gb202 l0 t214 t215 t216 65536 t218 t219 t220 t221 w _ ?side1 ?side2 A12.out).mono ?_); (case side1 => repeat (first | (with_reducible first | exact HI202.out | apply IsS63.alloc | apply IsS63.drewN | apply IsS63.drew | apply IsS63.set_1 | apply IsS63.set_2 | apply IsS63.set_3 | refine IsS63.far ?_ NB202_201.out _ | refine IsS63.far ?_ NB202_217.out _) | exact HI202.out)); (case side2 => repeat (first | (with_reducible first | exact HB.out | apply below_alloc | apply pw_below_drewN | apply below_drew1 | refine below_set ?_ (IsS63.ge HI202.out) | refine below_set ?_ GE201.out | refine below_set ?_ GE217.out) | exact HB.out)); rintro e w20 ⟨rfl, hi, hb, hk⟩; refine ⟨_, rfl, ?_⟩; have n0_ := Aside0.mk (Kd.R_mono (Kd.R_keep (IsS63.apart (show IsS63 w _ gb202 l0 t214 t215 t216 from by repeat (first | (with_reducible first | exact HI202.out | apply IsS63.alloc | apply IsS63.drewN | apply IsS63.drew | apply IsS63.set_1 | apply IsS63.set_2 | apply IsS63.set_3 | refine IsS63.far ?_ NB202_201.out _ | refine IsS63.far ?_ NB202_217.out _) | exact HI202.out)) (zR (Kd.R_mono (Kd.R_far (p := ⟨gb217, 2, none⟩) (Kd.R_far (p := ⟨gb217, 1, none⟩) (Kd.R_far (p := ⟨gb217, 0, none⟩) (Kd.R_mono HO_5.out (fun k_ hk => (⟨hk, hk.2⟩ : _ ∧ k_ ≠ gb217))) (fun _ hk => hk.2) (.slice Ao15 t207.length co15)) (fun _ hk => hk.2) (.int .i64 t213)) (fun _ hk => hk.2) (.slice none 0 0)) (fun _ h_ => h_.1))) (by decide)) hk (fun _ h => h.2)) (fun _ h => h.1)); have n1_ := Aside0.mk (KeepBut.blk hk (g' := gb201) (o := .cells #[.int .i64 0, .int .i64 0] 27 (0, 0)) (by (with_reducible repeat (first | refine blk_drewN ?_ _ | refine blk_drew ?_ | refine blk_alloc ?_ _)); refine blk_far ?_ NB201_217.out _; (with_reducible repeat (first | refine blk_drewN ?_ _ | refine blk_drew ?_ | refine blk_alloc ?_ _)); refine blk_far ?_ NB201_217.out _; (with_reducible repeat (first | refine blk_drewN ?_ _ | refine blk_drew ?_ | refine blk_alloc ?_ _)); refine blk_far ?_ NB201_217.out _; (with_reducible repeat (first | refine blk_drewN ?_ _ | refine blk_drew ?_ | refine blk_alloc ?_ _)); exact BK201.out) NB201_202.out (by simp)); have n2_ := Aside0.mk (Kd.R_mono (Kd.R_keep (IsS63.apart (show IsS63 w _ gb202 l0 t214 t215 t216 from by repeat (first | (with_reducible first | exact HI202.out | apply IsS63.alloc | apply IsS63.drewN | apply IsS63.drew | apply IsS63.set_1 | apply IsS63.set_2 | apply IsS63.set_3 | refine IsS63.far ?_ NB202_201.out _ | refine IsS63.far ?_ NB202_217.out _) | exact HI202.out)) (zR (Kd.R_mono (Kd.R_far (p := ⟨gb217, 2, none⟩) (Kd.R_far (p := ⟨gb217, 1, none⟩) (Kd.R_far (p := ⟨gb217, 0, none⟩) (Kd.R_types HO209.out BK217.out (by decide)) (fun _ hk => hk.2) (.slice Ao15 t207.length co15)) (fun _ hk => hk.2) (.int .i64 t213)) (fun _ hk => hk.2) (.slice none 0 0)) (fun _ h_ => h_.1))) (by decide)) hk (fun _ h => h.2)) (fun _ h => h.1)); have n3_ := Aside0.mk (KeepBut.blk hk (g' := gb217) (o := .cells #[.slice Ao15 t207.length co15, .int .i64 t213, .slice none 0 0] 47 (0, 0)) (by (with_reducible repeat (first | refine blk_drewN ?_ _ | refine blk_drew ?_ | refine blk_alloc ?_ _)); refine blk_put (cs := #[.slice Ao15 t207.length co15, .int .i64 t213, .slice none 0 0]) ?_ 2 _ rfl; (with_reducible repeat (first | refine blk_drewN ?_ _ | refine blk_drew ?_ | refine blk_alloc ?_ _)); refine blk_put (cs := #[.slice Ao15 t207.length co15, .int .i64 0, .slice none 0 0]) ?_ 1 _ rfl; (with_reducible repeat (first | refine blk_drewN ?_ _ | refine blk_drew ?_ | refine blk_alloc ?_ _)); refine blk_put (cs := #[.slice none 0 0, .int .i64 0, .slice none 0 0]) ?_ 0 _ rfl; (with_reducible repeat (first | refine blk_drewN ?_ _ | refine blk_drew ?_ | refine blk_alloc ?_ _)); exact BK217.out) NB217_202.out (by simp)); have n4_ := Aside0.mk (hb); have n5_ := Aside0.mk (hi); clear HO_5; clear BK201; clear HO209; clear BK217; clear HB; clear HI202; have HO_5 := n0_; have BK201 := n1_; have HO209 := n2_; have BK217 := n3_; have HB := n4_; have HI202 := n5_; clear n0_ n1_ n2_ n3_ n4_ n5_; (try clear hb); (try clear hb2); (try clear hk); (try clear hi)))
      go_loopg [8] kj5 (fun kq v8 w' => ∃ (x8_3 : Int) (x203001_3 : Int) (x203002_3 : Int) (x203003_3 : Int) (x218002_3 : List (S51)) (u218002 : Value), v8 = .int .i64 x8_3 ∧ Aside0 (code_Read.l1 kq l0 x5_1 x6_1 x8_3 l0 x203001_3 x203002_3 x203003_3 t207 t213 x218002_3 = some (r1, r2, r3)) ∧ Aside0 (kq ≤ kj5) ∧ Aside0 (Kd.R k47 47 w' w.heap.size (fun k_ => some k_ ≠ ((.slice Ao15 t207.length co15) : Value).ownBlock ∧ some k_ ≠ (u218002 : Value).ownBlock ∧ k_ ≠ gb217) u5 x5_1) ∧ Aside0 (Kd.R (Kd.int .i64) 3 w' w.heap.size (fun _ => True) (.slice Ao15 t207.length co15) t207) ∧ Aside0 (Kd.S k51 51 w' w.heap.size (fun k_ => some k_ ≠ ((.slice Ao15 t207.length co15) : Value).ownBlock) u218002 x218002_3) ∧ Aside0 (w'.heap[gb201]? = some (.cells #[.int .i64 0, .int .i64 0] 27 (0, 0))) ∧ Aside0 (w'.heap[gb217]? = some (.cells #[(.slice Ao15 t207.length co15), .int .i64 t213, u218002] 47 (0, 0))) ∧ Aside0 (IsS63 w w' gb202 l0 x203001_3 x203002_3 x203003_3) ∧ Aside0 (Below w.heap.size w w'))
      case atStart => exact ⟨(t218), (t219), (t220), (t221), (([] : List (S51))), (.slice none 0 0), (by first | rfl | (simp; done) | (simp [*]; done)), H', ⟨Nat.le_refl _⟩, ⟨by (with_reducible repeat (first | apply Kd.R_alloc | apply Kd.R_drewN | apply Kd.R_drew)); exact Kd.R_mono HO_5.out (fun _ hk => ⟨hk.1.2, ⟨(by simp [Value.ownBlock]), hk.2⟩⟩)⟩, ⟨zR HO209.out⟩, ⟨by first | exact Kd.S_nil _ _ _ _ _ | exact Kd.N_nil _ _ _ _ _ | exact Kd.V_nil _ _ _ _ _ | exact Kd.Q_nil _ _ _ _ _ | exact Kd.R_nil _ _ _ _ _⟩, ⟨zK BK201.out⟩, ⟨zK BK217.out⟩, ⟨by repeat (first | (with_reducible first | exact HI202.out | apply IsS63.alloc | apply IsS63.drewN | apply IsS63.drew | apply IsS63.set_1 | apply IsS63.set_2 | apply IsS63.set_3 | refine IsS63.far ?_ NB202_201.out _ | refine IsS63.far ?_ NB202_217.out _) | exact HI202.out)⟩, ⟨zE HB.out (IsS63.ge HI202.out) GE201.out GE217.out⟩⟩
      case round =>
       clear H'
       try clear c1
       try clear p2
       try clear c3
       try clear c7
       try clear c7b0
       try clear c9
       try clear c15
       try clear c17
       try clear c18
       try clear hcz19_0
       try clear hcz19_1
       try clear hcz19_2
       try clear hcz8_0
       try clear hcz8_1
       try clear hcz8_2
       try clear hcz8_3
       try clear hfz19_0
       try clear hfz19_1
       try clear hfz19_2
       try clear hfz8_1
       try clear hfz8_2
       try clear hfz8_3
       try clear p2
       obtain ⟨x8_3, x203001_3, x203002_3, x203003_3, x218002_3, u218002, rfl, HA, HK3, HO_5, HO_218000, HO_218002, BK201, BK217, HI202, HB⟩ := hrel
       cases gk with
       | zero => exact absurd HA.out (by simp [code_Read.l1])
       | succ k3 =>
        have H := HA.out
        clear HA
        simp only [code_Read.l1] at H
        by_cases c21 : x8_3 > 0
        ·rw [if_pos c21] at H
         have c21b0 : decide (0 < x8_3) = true := decide_eq_true c21
         clear c21
         by_cases c22 : x203002_3 = 0
         ·rw [if_pos c22] at H
          have c22b0 : (x203002_3 == 0) = true := beq_iff_eq.mpr c22
          have c22b1 : (x203002_3 != 0) = false := bne_eq_false_iff_eq.mpr c22
          clear c22
          replace H := Option.bind_eq_some_iff.mp H
          obtain ⟨⟨t222, t223, t224, t225, t226, t227, t230, t231, t232, t233, t234⟩, A230, H⟩ := H
          replace H : (if x218002_3.length < 1759218604441 then (code_Read.l1 k3 l0 x5_1 x6_1 (wrap64 (x8_3 - 1)) l0 t232 t233 t234 t207 t213 (x218002_3 ++ [(⟨t222, t223, t224, t225, t226, t227, (⟨t230, t231⟩ : S49)⟩ : S51)])) else (none)) = some (r1, r2, r3) := H
          have A23 := Aside0.mk A230
          clear A230
          by_cases c24 : x218002_3.length < 1759218604441
          ·rw [if_pos c24] at H
           have LMc24 := Aside0.mk c24
           clear c24
           obtain ⟨y235, hy235⟩ : ∃ y_ : List (S51), y_ = (x218002_3 ++ [(⟨t222, t223, t224, t225, t226, t227, (⟨t230, t231⟩ : S49)⟩ : S51)]) := ⟨_, rfl⟩
           replace H : (code_Read.l1 k3 l0 x5_1 x6_1 (wrap64 (x8_3 - 1)) l0 t232 t233 t234 t207 t213 y235) = some (r1, r2, r3) := by first | (rw [hy235]; with_reducible exact H) | (have H2_ := (Option.bind_some _ _).symm.trans H; rw [hy235]; with_reducible exact H2_) | (have H2_ := (Option.bind_some _ _).symm.trans H; with_reducible exact H2_) | with_reducible exact H | (rw [hy235]; exact H) | exact H
           have Ny235 := Aside0.mk hy235
           clear hy235
           have H' := Aside0.mk H
           clear H
           obtain ⟨ASz25_0, cSz25_0, HGz25, hgz25, HSz25_0⟩ := HI202.out
           have hcz25_0 := cellS63_0 HGz25
           have hcz25_1 := cellS63_1 HGz25
           have hcz25_2 := cellS63_2 HGz25
           have hcz25_3 := cellS63_3 HGz25
           have hfz25_1 := blk_frozen HGz25 1
           have hfz25_2 := blk_frozen HGz25 2
           have hfz25_3 := blk_frozen HGz25 3
           clear HGz25 hgz25
           try go_wp2
           have n0_ := Aside0.mk (Kd.R_drew HO_5.out)
           have n1_ := Aside0.mk (Kd.R_drew HO_218000.out)
           have n2_ := Aside0.mk (Kd.S_drew HO_218002.out)
           have n3_ := Aside0.mk (blk_drew BK201.out)
           have n4_ := Aside0.mk (blk_drew BK217.out)
           have n5_ := Aside0.mk (IsS63.drew HI202.out)
           have n6_ := Aside0.mk (below_drew1 HB.out)
           clear HO_5
           clear HO_218000
           clear HO_218002
           clear BK201
           clear BK217
           clear HI202
           clear HB
           have HO_5 := n0_
           have HO_218000 := n1_
           have HO_218002 := n2_
           have BK201 := n3_
           have BK217 := n4_
           have HI202 := n5_
           have HB := n6_
           clear n0_ n1_ n2_ n3_ n4_ n5_ n6_
           refine start_ (n := 8) (S := fun w' => w'.cell? ⟨gb217, 0, none⟩ = some (.slice Ao15 t207.length co15) ∧ w'.cell? ⟨gb217, 1, none⟩ = some (.int .i64 t213) ∧ w'.cell? ⟨gb217, 2, none⟩ = some (u218002)) (ds := [7]) #[false, false, false, false, false, false, false, false] (by kernel_rfl) rfl rfl ⟨(blk_cell BK217.out 0).trans rfl, (blk_cell BK217.out 1).trans rfl, (blk_cell BK217.out 2).trans rfl⟩ (fun hHeld => ?_); refine with_tabW code_Read.tab10 code_Read.bits10 (fun HT_ HW_ => ?_)
           generalize wr.drew = w26 at HO_5 HO_218000 HO_218002 BK201 BK217 HI202 HB hHeld ⊢
           refine pure_ (i := 0) (N := some 46) (v := ?_) (a' := ?_) #[true, false, false, false, false, false, false, false] rfl rfl (any_of HT_.out (by kernel_rfl)) (fun _ _ _ h => h) (Or.inl ⟨by rfl, ?_⟩) ?_ ?_
           rotate_left
           ·intro w'
            go_simp
            with_reducible rfl
           rotate_left
           ·simp only [Act.put, List.setIfInBounds_toArray, List.set_cons_zero, List.set_cons_succ, i64_w, i32_w]
            rfl
           refine pure_ (i := 2) (N := some 48) (v := ?_) (a' := ?_) #[true, false, true, false, false, false, false, false] rfl rfl (any_of HT_.out (by kernel_rfl)) (fun _ _ _ h => h) (Or.inl ⟨by rfl, ?_⟩) ?_ ?_
           rotate_left
           ·intro w'
            go_simp
            with_reducible rfl
           rotate_left
           ·simp only [Act.put, List.setIfInBounds_toArray, List.set_cons_zero, List.set_cons_succ, i64_w, i32_w]
            rfl
           refine take_ (i := 1) (N := some 47) (v := ?_) (a' := ?_) #[true, true, true, false, false, false, false, false] rfl rfl (take_ofW HT_.out HW_.out (by kernel_rfl)) (fun _ _ _ h => h) (Or.inl ⟨by rfl, ?_⟩) hHeld ?_ ?_
           rotate_left
           ·rintro w' ⟨s0, s1, s2⟩
            go_simp
            with_reducible rfl
           rotate_left
           ·simp only [Act.put, List.setIfInBounds_toArray, List.set_cons_zero, List.set_cons_succ, i64_w, i32_w]
            rfl
           refine one_ (i := 3) (N := some 49) #[true, true, true, true, false, false, false, false] rfl rfl (one_of HT_.out (by kernel_rfl)) (by decide) (fun K hK => ?_)
           refine goes_ Try.func38 (by kernel_rfl) rfl #[.pointer (some ⟨gb202, 0, none⟩)] (by rfl) rfl rfl zA ?_
           with_reducible refine (code_reader_inst.calls k3 gb202 l0 x203001_3 x203002_3 x203003_3 t222 t223 t224 t225 t226 t227 t230 t231 t232 t233 t234 w _ ?side1 ?side2 A23.out).mono ?_
           (case side1 => repeat (first | (with_reducible first | exact HI202.out | apply IsS63.alloc | apply IsS63.drewN | apply IsS63.drew | apply IsS63.set_1 | apply IsS63.set_2 | apply IsS63.set_3 | refine IsS63.far ?_ NB202_201.out _ | refine IsS63.far ?_ NB202_217.out _) | exact HI202.out))
           (case side2 => repeat (first | (with_reducible first | exact HB.out | apply below_alloc | apply pw_below_drewN | apply below_drew1 | refine below_set ?_ (IsS63.ge HI202.out) | refine below_set ?_ GE201.out | refine below_set ?_ GE217.out) | exact HB.out))
           rintro e w27 ⟨v228, rfl, ho0, hi, hb, hk⟩
           refine ⟨_, rfl, ?_⟩
           have n0_ := Aside0.mk (Kd.R_mono (Kd.R_told (Kd.R_oldK (IsS63.apart (show IsS63 w _ gb202 l0 x203001_3 x203002_3 x203003_3 from by repeat (first | (with_reducible first | exact HI202.out | apply IsS63.alloc | apply IsS63.drewN | apply IsS63.drew | apply IsS63.set_1 | apply IsS63.set_2 | apply IsS63.set_3 | refine IsS63.far ?_ NB202_201.out _ | refine IsS63.far ?_ NB202_217.out _) | exact HI202.out)) (zR HO_5.out) (by decide)) hk) (Kd.R_base ho0)) (fun _ h_ => h_.1))
           have n1_ := Aside0.mk (Kd.R_mono (Kd.R_told (Kd.R_oldK (IsS63.apart (show IsS63 w _ gb202 l0 x203001_3 x203002_3 x203003_3 from by repeat (first | (with_reducible first | exact HI202.out | apply IsS63.alloc | apply IsS63.drewN | apply IsS63.drew | apply IsS63.set_1 | apply IsS63.set_2 | apply IsS63.set_3 | refine IsS63.far ?_ NB202_201.out _ | refine IsS63.far ?_ NB202_217.out _) | exact HI202.out)) (zR HO_218000.out) (by decide)) hk) (Kd.R_base ho0)) (fun _ h_ => h_.1))
           have n2_ := Aside0.mk (Kd.S_mono (Kd.S_told (Kd.S_oldK (IsS63.apartS (show IsS63 w _ gb202 l0 x203001_3 x203002_3 x203003_3 from by repeat (first | (with_reducible first | exact HI202.out | apply IsS63.alloc | apply IsS63.drewN | apply IsS63.drew | apply IsS63.set_1 | apply IsS63.set_2 | apply IsS63.set_3 | refine IsS63.far ?_ NB202_201.out _ | refine IsS63.far ?_ NB202_217.out _) | exact HI202.out)) (by (with_reducible repeat (first | apply Kd.S_alloc | apply Kd.S_drewN | apply Kd.S_drew)); exact HO_218002.out) (by decide)) hk) (Kd.R_base ho0)) (fun _ h_ => h_.1))
           have n3_ := Aside0.mk (KeepBut.blk hk (g' := gb201) (o := .cells #[.int .i64 0, .int .i64 0] 27 (0, 0)) (zK BK201.out) NB201_202.out (by simp))
           have n4_ := Aside0.mk (KeepBut.blk hk (g' := gb217) (o := .cells #[.slice Ao15 t207.length co15, .int .i64 t213, u218002] 47 (0, 0)) (zK BK217.out) NB217_202.out (by simp))
           have n5_ := Aside0.mk (Kd.R_lower (Kd.R_new' ho0 (Kd.R_lt (zR HO_218000.out))) (below_size (zE HB.out (IsS63.ge HI202.out) GE201.out GE217.out)))
           have n6_ := Aside0.mk (hb)
           have n7_ := Aside0.mk (hi)
           clear HO_5
           clear HO_218000
           clear HO_218002
           clear BK201
           clear BK217
           clear HB
           clear HI202
           have HO_5 := n0_
           have HO_218000 := n1_
           have HO_218002 := n2_
           have BK201 := n3_
           have BK217 := n4_
           have HO229 := n5_
           have HB := n6_
           have HI202 := n7_
           clear n0_ n1_ n2_ n3_ n4_ n5_ n6_ n7_
           (try clear hb)
           (try clear hb2)
           (try clear hk)
           (try clear hi)
           (try clear ho0)
           obtain ⟨Ao29, co29, eo29⟩ := Kd.R_slice HO229.out
           (first | subst eo29 | (injection eo29 with f1_ f2_ f3_; have f4_ := f1_.symm; have f5_ := f3_.symm; clear f1_ f2_ f3_; subst f4_; subst f5_))
           refine hK.out _ _ ⟨(blk_cell BK217.out 0).trans rfl, (blk_cell BK217.out 1).trans rfl, (blk_cell BK217.out 2).trans rfl⟩ (fun hHeld => ?_)
           clear hK K
           refine norm_ (a' := ?_) ?_ ?_
           rotate_left
           ·show Act.put _ (some 49) _ = _
            simp only [Act.put, List.setIfInBounds_toArray, List.set_cons_zero, List.set_cons_succ, i64_w, i32_w]
            rfl
           refine one_ (i := 4) (N := some 50) #[true, true, true, true, true, false, false, false] rfl rfl (one_of HT_.out (by kernel_rfl)) (by decide) (fun K hK => ?_)
           refine value_ (w1 := ?_) (v := ?_) (by rfl) rfl ?_ ?_
           rotate_left 2
           ·go_simp
            constructor
            ·rfl
            ·rfl
           refine hK.out _ _ ⟨(blk_cell (blk_alloc BK217.out _) 0).trans rfl, (blk_cell (blk_alloc BK217.out _) 1).trans rfl, (blk_cell (blk_alloc BK217.out _) 2).trans rfl⟩ (fun hHeld => ?_)
           clear hK K
           refine norm_ (a' := ?_) ?_ ?_
           rotate_left
           ·show Act.put _ (some 50) _ = _
            simp only [Act.put, List.setIfInBounds_toArray, List.set_cons_zero, List.set_cons_succ, i64_w, i32_w]
            rfl
           refine one_ (i := 5) (N := some 51) #[true, true, true, true, true, true, false, false] rfl rfl (one_of HT_.out (by kernel_rfl)) (by decide) (fun K hK => ?_)
           refine Kd.S_append_step k51 (w0 := w) w.heap.size (by rfl) (.tmp 47) (.tmp 50) 45 51 (.agg #[(.int .i64 0), (.int .i64 0), (.int .i64 0), (.int .i64 0), (.int .i64 0), (.slice none 0 0), (.int .i64 0), (.int .i64 0)]) 80 rfl Try.underlying45 info51 rfl (by decide) (by omega) u218002 x218002_3 (⟨t222, t223, t224, t225, t226, t227, (⟨t230, t231⟩ : S49)⟩ : S51) [.int .i64 t222, .int .i64 t223, .int .i64 t224, .int .i64 t225, .int .i64 t226, .slice Ao29 t227.length co29, .int .i64 t230, .int .i64 t231] (fun k_ => some k_ ≠ (.slice Ao15 t207.length co15 : Value).ownBlock) (fun k_ => some k_ = (.slice Ao29 t227.length co29 : Value).ownBlock) rfl rfl ?aP (fun k_ hk_ => ((Kd.R_mono (ok' := fun k_ => ((fun k_ => some k_ ≠ (.slice Ao15 t207.length co15 : Value).ownBlock)) k_ ∧ some k_ ≠ (u218002 : Value).ownBlock) (Kd.R_apart' (HO229.out) (Kd.S_typed HO_218002.out) (by decide)) (fun k_ hk => ⟨hk.1.2, hk.2⟩))).1 k_ hk_.symm) ?aF ?aO ?aB ?aS ?aL ?_
           (case aP => exact k51_mkM _ _ _ (⟨t222, t223, t224, t225, t226, t227, (⟨t230, t231⟩ : S49)⟩ : S51) (Kd.R_mono (Kd.R_tight rfl (Kd.R_mono (ok' := fun k_ => ((fun k_ => some k_ ≠ (.slice Ao15 t207.length co15 : Value).ownBlock)) k_ ∧ some k_ ≠ (u218002 : Value).ownBlock) (Kd.R_apart' (HO229.out) (Kd.S_typed HO_218002.out) (by decide)) (fun k_ hk => ⟨hk.1.2, hk.2⟩))) (fun _ h_ => h_)))
           (case aB => exact (zE HB.out (IsS63.ge HI202.out) GE201.out GE217.out))
           (case aF => exact (fun k_ hk => Kd.fresh' (Kd.R_lt (zR HO_218000.out)) k_ hk))
           (case aO => exact (by (with_reducible repeat (first | apply Kd.S_alloc | apply Kd.S_drewN | apply Kd.S_drew)); exact Kd.S_mono HO_218002.out (fun k_ hk => ⟨hk.1, fun e_ => hk.2 e_⟩)))
           (case aS => exact (below_size (zE HB.out (IsS63.ge HI202.out) GE201.out GE217.out)))
           (case aL => have := LMc24.out; omega)
           intro v236 w28 ho hb hg hat
           rw [← Ny235.out] at ho
           have n0_ := Aside0.mk (Kd.R_after (ok := (fun k_ => some k_ ≠ (.slice Ao15 t207.length co15 : Value).ownBlock ∧ some k_ ≠ (.slice Ao29 t227.length co29 : Value).ownBlock ∧ k_ ≠ gb217)) (by (with_reducible repeat (first | apply Kd.R_alloc | apply Kd.R_drewN | apply Kd.R_drew)); exact Kd.R_mono HO_5.out (fun _ hk => ⟨⟨hk.1.1, ⟨hk.2, hk.1.2.2⟩⟩, hk.1.2.1⟩)) hg hat)
           have n1_ := Aside0.mk (Kd.R_over' (zR HO_218000.out) (Kd.S_typed (by (with_reducible repeat (first | apply Kd.S_alloc | apply Kd.S_drewN | apply Kd.S_drew)); exact HO_218002.out)) (by decide) hg)
           have n2_ := Aside0.mk (blk_grown (g := gb201) (o := .cells #[.int .i64 0, .int .i64 0] 27 (0, 0)) (zK BK201.out) hg (Kd.S_ne HO_218002.out BK201.out (by decide)))
           have n3_ := Aside0.mk (blk_grown (g := gb217) (o := .cells #[.slice Ao15 t207.length co15, .int .i64 t213, u218002] 47 (0, 0)) (zK BK217.out) hg (Kd.S_ne HO_218002.out BK217.out (by decide)))
           have n4_ := Aside0.mk (IsS63.grown (by repeat (first | (with_reducible first | exact HI202.out | apply IsS63.alloc | apply IsS63.drewN | apply IsS63.drew | apply IsS63.set_1 | apply IsS63.set_2 | apply IsS63.set_3 | refine IsS63.far ?_ NB202_201.out _ | refine IsS63.far ?_ NB202_217.out _) | exact HI202.out)) hg (IsS63.own_neS HI202.out HO_218002.out (by decide)))
           have n5_ := Aside0.mk (hb)
           have n6_ := Aside0.mk (ho)
           clear HO_5
           clear HO_218000
           clear BK201
           clear BK217
           clear HI202
           clear HB
           clear HO_218002
           clear HO229
           have HO_5 := n0_
           have HO_218000 := n1_
           have BK201 := n2_
           have BK217 := n3_
           have HI202 := n4_
           have HB := n5_
           have HO237 := n6_
           clear n0_ n1_ n2_ n3_ n4_ n5_ n6_
           clear ho hb hg hat
           obtain ⟨Ao30, co30, eo30⟩ := Kd.S_slice HO237.out
           (first | subst eo30 | (injection eo30 with f1_ f2_ f3_; have f4_ := f1_.symm; have f5_ := f3_.symm; clear f1_ f2_ f3_; subst f4_; subst f5_))
           refine hK.out _ _ ⟨(blk_cell BK217.out 0).trans rfl, (blk_cell BK217.out 1).trans rfl, (blk_cell BK217.out 2).trans rfl⟩ (fun hHeld => ?_)
           clear hK K
           refine norm_ (a' := ?_) ?_ ?_
           rotate_left
           ·show Act.put _ (some 51) _ = _
            simp only [Act.put, List.setIfInBounds_toArray, List.set_cons_zero, List.set_cons_succ, i64_w, i32_w]
            rfl
           refine pure_ (i := 6) (N := some 52) (v := ?_) (a' := ?_) #[true, true, true, true, true, true, true, false] rfl rfl (any_of HT_.out (by kernel_rfl)) (fun _ _ _ h => h) (Or.inl ⟨by rfl, ?_⟩) ?_ ?_
           rotate_left
           ·intro w'
            go_simp
            with_reducible rfl
           rotate_left
           ·simp only [Act.put, List.setIfInBounds_toArray, List.set_cons_zero, List.set_cons_succ, i64_w, i32_w]
            rfl
           refine last_ (i := 7) (N := none) #[true, true, true, true, true, true, true, true] rfl rfl (one_of HT_.out (by kernel_rfl)) (by decide) (fun K hK => ?_)
           have hs31 : w28.cell? ⟨gb217, 2, none⟩ = some (u218002) := (blk_cell BK217.out 2).trans rfl
           have hfs31 := blk_frozen BK217.out 2
           have hns31_0 := NB201_217.out
           have hms31_0 := NB217_201.out
           refine skip_ (w1 := ?_) (by rfl) rfl ?_ ?_
           rotate_left
           ·go_simp
            rfl
           refine hK.out _ _ ?_
           clear hK K
           refine done_ (done_of HT_.out (by kernel_rfl)) ?_
           try go_wp2
           go_roundg k3
           case measure => have := HK1.out; have := HJ5.out; have := HK3.out; omega
           case rel => exact ⟨(wrap64 (x8_3 - 1)), (t232), (t233), (t234), (y235), (.slice Ao30 y235.length co30), (by first | rfl | (simp; done) | (simp [*]; done)), H', ⟨by have := HK1.out; have := HJ5.out; have := HK3.out; omega⟩, ⟨by (with_reducible repeat (first | apply Kd.R_alloc | apply Kd.R_drewN | apply Kd.R_drew)); exact Kd.R_mono (Kd.R_far (p := ⟨gb217, 2, none⟩) (Kd.R_mono HO_5.out (fun k_ hk => (⟨hk, hk.1.2.2⟩ : _ ∧ k_ ≠ gb217))) (fun _ hk => hk.2) (.slice Ao30 y235.length co30)) (fun _ hk => ⟨hk.1.1.1, ⟨hk.1.2, hk.1.1.2.2⟩⟩)⟩, ⟨by (with_reducible repeat (first | apply Kd.R_alloc | apply Kd.R_drewN | apply Kd.R_drew)); exact Kd.R_mono (Kd.R_far (p := ⟨gb217, 2, none⟩) (Kd.R_types HO_218000.out BK217.out (by decide)) (fun _ hk => hk.2) (.slice Ao30 y235.length co30)) (fun _ hk => trivial)⟩, ⟨by (with_reducible repeat (first | apply Kd.S_alloc | apply Kd.S_drewN | apply Kd.S_drew)); exact Kd.S_mono (Kd.S_far (p := ⟨gb217, 2, none⟩) (Kd.S_types HO237.out BK217.out (by decide)) (fun _ hk => hk.2) (.slice Ao30 y235.length co30)) (fun _ hk => hk.1)⟩, ⟨by (with_reducible repeat (first | refine blk_drewN ?_ _ | refine blk_drew ?_ | refine blk_alloc ?_ _)); refine blk_far ?_ NB201_217.out _; (with_reducible repeat (first | refine blk_drewN ?_ _ | refine blk_drew ?_ | refine blk_alloc ?_ _)); exact BK201.out⟩, ⟨by (with_reducible repeat (first | refine blk_drewN ?_ _ | refine blk_drew ?_ | refine blk_alloc ?_ _)); refine blk_put (cs := #[.slice Ao15 t207.length co15, .int .i64 t213, u218002]) ?_ 2 _ rfl; (with_reducible repeat (first | refine blk_drewN ?_ _ | refine blk_drew ?_ | refine blk_alloc ?_ _)); exact BK217.out⟩, ⟨by repeat (first | (with_reducible first | exact HI202.out | apply IsS63.alloc | apply IsS63.drewN | apply IsS63.drew | apply IsS63.set_1 | apply IsS63.set_2 | apply IsS63.set_3 | refine IsS63.far ?_ NB202_201.out _ | refine IsS63.far ?_ NB202_217.out _) | exact HI202.out)⟩, ⟨zE HB.out (IsS63.ge HI202.out) GE201.out GE217.out⟩⟩
          ·rw [if_neg c24] at H
           exact absurd H (by simp)
         ·rw [if_neg c22] at H
          have c22b0 : (x203002_3 == 0) = false := beq_eq_false_iff_ne.mpr c22
          have c22b1 : (x203002_3 != 0) = true := bne_iff_ne.mpr c22
          by_cases c32 : x5_1.length < 2513169434916
          ·rw [if_pos c32] at H
           have LMc32 := Aside0.mk c32
           clear c32
           obtain ⟨y238, hy238⟩ : ∃ y_ : List (S47), y_ = (x5_1 ++ [(⟨t207, t213, x218002_3⟩ : S47)]) := ⟨_, rfl⟩
           replace H : (code_Read.l0 k3 l0 y238 (wrap64 (x6_1 - 1)) l0 x203001_3 x203002_3 x203003_3) = some (r1, r2, r3) := by first | (rw [hy238]; with_reducible exact H) | (have H2_ := (Option.bind_some _ _).symm.trans H; rw [hy238]; with_reducible exact H2_) | (have H2_ := (Option.bind_some _ _).symm.trans H; with_reducible exact H2_) | with_reducible exact H | (rw [hy238]; exact H) | exact H
           have Ny238 := Aside0.mk hy238
           clear hy238
           have H' := Aside0.mk H
           clear H
           obtain ⟨ASz33_0, cSz33_0, HGz33, hgz33, HSz33_0⟩ := HI202.out
           have hcz33_0 := cellS63_0 HGz33
           have hcz33_1 := cellS63_1 HGz33
           have hcz33_2 := cellS63_2 HGz33
           have hcz33_3 := cellS63_3 HGz33
           have hfz33_1 := blk_frozen HGz33 1
           have hfz33_2 := blk_frozen HGz33 2
           have hfz33_3 := blk_frozen HGz33 3
           clear HGz33 hgz33
           have hnb34 := NB217_201.out
           have hnc34 := NB201_217.out
           have hnb35 := NB217_202.out
           have hnc35 := NB202_217.out
           have hcz36_0 : wr.cell? ⟨gb217, 0, none⟩ = some (.slice Ao15 t207.length co15) := (blk_cell BK217.out 0).trans rfl
           have hcz36_1 : wr.cell? ⟨gb217, 1, none⟩ = some (.int .i64 t213) := (blk_cell BK217.out 1).trans rfl
           have hcz36_2 : wr.cell? ⟨gb217, 2, none⟩ = some (u218002) := (blk_cell BK217.out 2).trans rfl
           have hfz36_0 := blk_frozen BK217.out 0
           have hfz36_1 := blk_frozen BK217.out 1
           have hfz36_2 := blk_frozen BK217.out 2
           obtain ⟨Ao38, co38, eo38⟩ := Kd.S_slice HO_218002.out
           subst eo38
           go_wp2_with (first | ((with_reducible refine gate_builtin (b := .append) (xs := #[.tmp 53, .tmp 55]) rfl ?_); (try (refine gate_guard (by rfl) ?_; dsimp only)); at_builtin; refine Kd.R_append k47 (w0 := w) w.heap.size rfl (.tmp 53) (.tmp 55) 22 47 (.agg #[(.slice none 0 0), (.int .i64 0), (.slice none 0 0)]) 56 rfl Try.underlying22 info47 rfl (by decide) (by omega) u5 x5_1 (⟨t207, t213, x218002_3⟩ : S47) [.slice Ao15 t207.length co15, .int .i64 t213, .slice Ao38 x218002_3.length co38] (fun k_ => k_ ≠ gb217) (fun k_ => ((fun k_ => k_ ≠ gb217)) k_ ∧ some k_ ≠ (u5 : Value).ownBlock) rfl rfl ?aP (fun _ hk => hk) ?aF ?aO ?aB ?aS ?aL ?_; (case aP => exact k47_mkM _ _ _ (⟨t207, t213, x218002_3⟩ : S47) (Kd.R_mono (Kd.R_types (Kd.R_apart' (HO_218000.out) (Kd.R_typed HO_5.out) (by decide)) BK217.out (by decide)) (fun k_ hk => ⟨hk.2, hk.1.2⟩)) (Kd.R_mono (Kd.R_types (Kd.R_apart' ((Kd.S_R HO_218002.out)) (Kd.R_typed HO_5.out) (by decide)) BK217.out (by decide)) (fun k_ hk => ⟨hk.2, hk.1.2⟩))); (case aB => exact (zE HB.out (IsS63.ge HI202.out) GE201.out GE217.out)); (case aF => exact (fun k_ hk => Kd.freshB (g := gb217) (o := .cells #[.slice Ao15 t207.length co15, .int .i64 t213, .slice Ao38 x218002_3.length co38] 47 (0, 0)) (zK BK217.out) k_ hk)); (case aO => exact (by (with_reducible repeat (first | apply Kd.R_alloc | apply Kd.R_drewN | apply Kd.R_drew)); exact Kd.R_mono HO_5.out (fun _ hk => hk.2.2))); (case aS => exact (below_size (zE HB.out (IsS63.ge HI202.out) GE201.out GE217.out))); (case aL => have := LMc32.out; omega); intro v239 w37 ho hb hg hat; rw [← Ny238.out] at ho; have n0_ := Aside0.mk (blk_grown (g := gb201) (o := .cells #[.int .i64 0, .int .i64 0] 27 (0, 0)) (zK BK201.out) hg (Kd.R_ne HO_5.out BK201.out (by decide))); have n1_ := Aside0.mk (blk_grown (g := gb217) (o := .cells #[.slice Ao15 t207.length co15, .int .i64 t213, .slice Ao38 x218002_3.length co38] 47 (0, 0)) (zK BK217.out) hg (Kd.R_away HO_5.out (fun _ hk => hk.2.2))); have n2_ := Aside0.mk (IsS63.grown (by repeat (first | (with_reducible first | exact HI202.out | apply IsS63.alloc | apply IsS63.drewN | apply IsS63.drew | apply IsS63.set_1 | apply IsS63.set_2 | apply IsS63.set_3 | refine IsS63.far ?_ NB202_201.out _ | refine IsS63.far ?_ NB202_217.out _) | exact HI202.out)) hg (IsS63.own_ne HI202.out HO_5.out (by decide))); have n3_ := Aside0.mk (hb); have n4_ := Aside0.mk (ho); clear BK201; clear BK217; clear HI202; clear HB; clear HO_5; clear HO_218000; clear HO_218002; have BK201 := n0_; have BK217 := n1_; have HI202 := n2_; have HB := n3_; have HO240 := n4_; clear n0_ n1_ n2_ n3_ n4_; clear ho hb hg hat))
           go_roundg k3
           case measure => have := HK1.out; have := HJ5.out; have := HK3.out; omega
           case rel => exact ⟨(y238), (wrap64 (x6_1 - 1)), (x203001_3), (x203002_3), (x203003_3), (by first | rfl | (simp; done) | (simp [*]; done)), H', ⟨by have := HK1.out; have := HJ5.out; have := HK3.out; omega⟩, ⟨by (with_reducible repeat (first | apply Kd.R_alloc | apply Kd.R_drewN | apply Kd.R_drew)); exact Kd.R_mono HO240.out (fun _ hk => trivial)⟩, ⟨zK BK201.out⟩, ⟨by repeat (first | (with_reducible first | exact HI202.out | apply IsS63.alloc | apply IsS63.drewN | apply IsS63.drew | apply IsS63.set_1 | apply IsS63.set_2 | apply IsS63.set_3 | refine IsS63.far ?_ NB202_201.out _ | refine IsS63.far ?_ NB202_217.out _) | exact HI202.out)⟩, ⟨zE HB.out (IsS63.ge HI202.out) GE201.out GE217.out⟩⟩
          ·rw [if_neg c32] at H
           exact absurd H (by simp)
        ·rw [if_neg c21] at H
         have c21b0 : decide (0 < x8_3) = false := decide_eq_false c21
         clear c21
         by_cases c39 : x5_1.length < 2513169434916
         ·rw [if_pos c39] at H
          have LMc39 := Aside0.mk c39
          clear c39
          obtain ⟨y241, hy241⟩ : ∃ y_ : List (S47), y_ = (x5_1 ++ [(⟨t207, t213, x218002_3⟩ : S47)]) := ⟨_, rfl⟩
          replace H : (code_Read.l0 k3 l0 y241 (wrap64 (x6_1 - 1)) l0 x203001_3 x203002_3 x203003_3) = some (r1, r2, r3) := by first | (rw [hy241]; with_reducible exact H) | (have H2_ := (Option.bind_some _ _).symm.trans H; rw [hy241]; with_reducible exact H2_) | (have H2_ := (Option.bind_some _ _).symm.trans H; with_reducible exact H2_) | with_reducible exact H | (rw [hy241]; exact H) | exact H
          have Ny241 := Aside0.mk hy241
          clear hy241
          have H' := Aside0.mk H
          clear H
          have hnb40 := NB217_201.out
          have hnc40 := NB201_217.out
          have hnb41 := NB217_202.out
          have hnc41 := NB202_217.out
          have hcz42_0 : wr.cell? ⟨gb217, 0, none⟩ = some (.slice Ao15 t207.length co15) := (blk_cell BK217.out 0).trans rfl
          have hcz42_1 : wr.cell? ⟨gb217, 1, none⟩ = some (.int .i64 t213) := (blk_cell BK217.out 1).trans rfl
          have hcz42_2 : wr.cell? ⟨gb217, 2, none⟩ = some (u218002) := (blk_cell BK217.out 2).trans rfl
          have hfz42_0 := blk_frozen BK217.out 0
          have hfz42_1 := blk_frozen BK217.out 1
          have hfz42_2 := blk_frozen BK217.out 2
          obtain ⟨Ao44, co44, eo44⟩ := Kd.S_slice HO_218002.out
          subst eo44
          go_wp2_with (first | ((with_reducible refine gate_builtin (b := .append) (xs := #[.tmp 53, .tmp 55]) rfl ?_); (try (refine gate_guard (by rfl) ?_; dsimp only)); at_builtin; refine Kd.R_append k47 (w0 := w) w.heap.size rfl (.tmp 53) (.tmp 55) 22 47 (.agg #[(.slice none 0 0), (.int .i64 0), (.slice none 0 0)]) 56 rfl Try.underlying22 info47 rfl (by decide) (by omega) u5 x5_1 (⟨t207, t213, x218002_3⟩ : S47) [.slice Ao15 t207.length co15, .int .i64 t213, .slice Ao44 x218002_3.length co44] (fun k_ => k_ ≠ gb217) (fun k_ => ((fun k_ => k_ ≠ gb217)) k_ ∧ some k_ ≠ (u5 : Value).ownBlock) rfl rfl ?aP (fun _ hk => hk) ?aF ?aO ?aB ?aS ?aL ?_; (case aP => exact k47_mkM _ _ _ (⟨t207, t213, x218002_3⟩ : S47) (Kd.R_mono (Kd.R_types (Kd.R_apart' (HO_218000.out) (Kd.R_typed HO_5.out) (by decide)) BK217.out (by decide)) (fun k_ hk => ⟨hk.2, hk.1.2⟩)) (Kd.R_mono (Kd.R_types (Kd.R_apart' ((Kd.S_R HO_218002.out)) (Kd.R_typed HO_5.out) (by decide)) BK217.out (by decide)) (fun k_ hk => ⟨hk.2, hk.1.2⟩))); (case aB => exact (zE HB.out (IsS63.ge HI202.out) GE201.out GE217.out)); (case aF => exact (fun k_ hk => Kd.freshB (g := gb217) (o := .cells #[.slice Ao15 t207.length co15, .int .i64 t213, .slice Ao44 x218002_3.length co44] 47 (0, 0)) (zK BK217.out) k_ hk)); (case aO => exact (by (with_reducible repeat (first | apply Kd.R_alloc | apply Kd.R_drewN | apply Kd.R_drew)); exact Kd.R_mono HO_5.out (fun _ hk => hk.2.2))); (case aS => exact (below_size (zE HB.out (IsS63.ge HI202.out) GE201.out GE217.out))); (case aL => have := LMc39.out; omega); intro v242 w43 ho hb hg hat; rw [← Ny241.out] at ho; have n0_ := Aside0.mk (blk_grown (g := gb201) (o := .cells #[.int .i64 0, .int .i64 0] 27 (0, 0)) (zK BK201.out) hg (Kd.R_ne HO_5.out BK201.out (by decide))); have n1_ := Aside0.mk (blk_grown (g := gb217) (o := .cells #[.slice Ao15 t207.length co15, .int .i64 t213, .slice Ao44 x218002_3.length co44] 47 (0, 0)) (zK BK217.out) hg (Kd.R_away HO_5.out (fun _ hk => hk.2.2))); have n2_ := Aside0.mk (IsS63.grown (by repeat (first | (with_reducible first | exact HI202.out | apply IsS63.alloc | apply IsS63.drewN | apply IsS63.drew | apply IsS63.set_1 | apply IsS63.set_2 | apply IsS63.set_3 | refine IsS63.far ?_ NB202_201.out _ | refine IsS63.far ?_ NB202_217.out _) | exact HI202.out)) hg (IsS63.own_ne HI202.out HO_5.out (by decide))); have n3_ := Aside0.mk (hb); have n4_ := Aside0.mk (ho); clear BK201; clear BK217; clear HI202; clear HB; clear HO_5; clear HO_218000; clear HO_218002; have BK201 := n0_; have BK217 := n1_; have HI202 := n2_; have HB := n3_; have HO243 := n4_; clear n0_ n1_ n2_ n3_ n4_; clear ho hb hg hat))
          go_roundg k3
          case measure => have := HK1.out; have := HJ5.out; have := HK3.out; omega
          case rel => exact ⟨(y241), (wrap64 (x6_1 - 1)), (x203001_3), (x203002_3), (x203003_3), (by first | rfl | (simp; done) | (simp [*]; done)), H', ⟨by have := HK1.out; have := HJ5.out; have := HK3.out; omega⟩, ⟨by (with_reducible repeat (first | apply Kd.R_alloc | apply Kd.R_drewN | apply Kd.R_drew)); exact Kd.R_mono HO243.out (fun _ hk => trivial)⟩, ⟨zK BK201.out⟩, ⟨by repeat (first | (with_reducible first | exact HI202.out | apply IsS63.alloc | apply IsS63.drewN | apply IsS63.drew | apply IsS63.set_1 | apply IsS63.set_2 | apply IsS63.set_3 | refine IsS63.far ?_ NB202_201.out _ | refine IsS63.far ?_ NB202_217.out _) | exact HI202.out)⟩, ⟨zE HB.out (IsS63.ge HI202.out) GE201.out GE217.out⟩⟩
         ·rw [if_neg c39] at H
          exact absurd H (by simp)
     ·replace c9 := Bool.eq_false_iff.mpr c9
      subst c9
      have H1 : (if x203002_1 = 0 then (code_Read.j3 kj5 l0 x5_1 (decide (x203001_1 < (l0.length : Int))) l0 x203001_1 x203002_1 x203003_1) else (code_Read.j3 kj5 l0 x5_1 false l0 x203001_1 x203002_1 x203003_1)) = some (r1, r2, r3) := by rw [if_neg (show ¬ (false = true) by decide)] at H; exact H
      clear H
      have H := H1
      clear H1
      have HC45 := Aside0.mk H
      clear H
      go_upto_region 12 with (fail)
      go_cut [71] (fun v71 wc => ∃ (kq : Nat) (x71_44 : Bool), v71 = .bool x71_44 ∧ Aside0 (code_Read.j3 kq l0 x5_1 x71_44 l0 x203001_1 x203002_1 x203003_1 = some (r1, r2, r3)) ∧ Aside0 (kq ≤ kj5) ∧ Aside0 (Kd.R k47 47 wc w.heap.size (fun _ => True) u5 x5_1) ∧ Aside0 (wc.heap[gb201]? = some (.cells #[.int .i64 0, .int .i64 0] 27 (0, 0))) ∧ Aside0 (IsS63 w wc gb202 l0 x203001_1 x203002_1 x203003_1) ∧ Aside0 (Below w.heap.size w wc))
      case first =>
       have H := HC45.out
       clear HC45
       by_cases c46 : x203002_1 = 0
       ·rw [if_pos c46] at H
        have c46b0 : (x203002_1 == 0) = true := beq_iff_eq.mpr c46
        have c46b1 : (x203002_1 != 0) = false := bne_eq_false_iff_eq.mpr c46
        clear c46
        (first | rw [c46b0] | (simp only [i64_w, i32_w]; rw [c46b0]) | skip)
        have H' := Aside0.mk H
        clear H
        obtain ⟨ASz47_0, cSz47_0, HGz47, hgz47, HSz47_0⟩ := HI202.out
        have hcz47_0 := cellS63_0 HGz47
        have hcz47_1 := cellS63_1 HGz47
        have hcz47_2 := cellS63_2 HGz47
        have hcz47_3 := cellS63_3 HGz47
        have hfz47_1 := blk_frozen HGz47 1
        have hfz47_2 := blk_frozen HGz47 2
        have hfz47_3 := blk_frozen HGz47 3
        clear HGz47 hgz47
        go_wp2
        go_meet
        case rel => exact ⟨_, (decide (x203001_1 < (l0.length : Int))), (by first | rfl | (simp; done) | (simp [*]; done)), H', ⟨by have := HK1.out; have := HJ5.out; first | omega | exact Nat.le_refl _⟩, ⟨zR HO_5.out⟩, ⟨zK BK201.out⟩, ⟨by repeat (first | (with_reducible first | exact HI202.out | apply IsS63.alloc | apply IsS63.drewN | apply IsS63.drew | apply IsS63.set_1 | apply IsS63.set_2 | apply IsS63.set_3 | refine IsS63.far ?_ NB202_201.out _) | exact HI202.out)⟩, ⟨zD HB.out (IsS63.ge HI202.out) GE201.out⟩⟩
       ·rw [if_neg c46] at H
        have c46b0 : (x203002_1 == 0) = false := beq_eq_false_iff_ne.mpr c46
        have c46b1 : (x203002_1 != 0) = true := bne_iff_ne.mpr c46
        (first | rw [c46b0] | (simp only [i64_w, i32_w]; rw [c46b0]) | skip)
        have H' := Aside0.mk H
        clear H
        obtain ⟨ASz48_0, cSz48_0, HGz48, hgz48, HSz48_0⟩ := HI202.out
        have hcz48_0 := cellS63_0 HGz48
        have hcz48_1 := cellS63_1 HGz48
        have hcz48_2 := cellS63_2 HGz48
        have hcz48_3 := cellS63_3 HGz48
        have hfz48_1 := blk_frozen HGz48 1
        have hfz48_2 := blk_frozen HGz48 2
        have hfz48_3 := blk_frozen HGz48 3
        clear HGz48 hgz48
        go_wp2
        go_meet
        case rel => exact ⟨_, (false), (by first | rfl | (simp; done) | (simp [*]; done)), H', ⟨by have := HK1.out; have := HJ5.out; first | omega | exact Nat.le_refl _⟩, ⟨zR HO_5.out⟩, ⟨zK BK201.out⟩, ⟨by repeat (first | (with_reducible first | exact HI202.out | apply IsS63.alloc | apply IsS63.drewN | apply IsS63.drew | apply IsS63.set_1 | apply IsS63.set_2 | apply IsS63.set_3 | refine IsS63.far ?_ NB202_201.out _) | exact HI202.out)⟩, ⟨zD HB.out (IsS63.ge HI202.out) GE201.out⟩⟩
      case rest =>
       clear HC45
       try clear c1
       try clear c2
       try clear p2
       try clear c3
       try clear c4
       try clear p6
       try clear c7
       try clear c7b0
       try clear c9
       try clear c15
       try clear c17
       try clear c18
       try clear c21
       try clear c21b0
       try clear c22
       try clear c22b0
       try clear c22b1
       try clear c24
       try clear c32
       try clear c34
       try clear c35
       try clear c36
       try clear c37
       try clear c38
       try clear c39
       try clear c40
       try clear c41
       try clear c46
       try clear c46b0
       try clear c46b1
       try clear hcz19_0
       try clear hcz19_1
       try clear hcz19_2
       try clear hcz25_0
       try clear hcz25_1
       try clear hcz25_2
       try clear hcz25_3
       try clear hcz33_0
       try clear hcz33_1
       try clear hcz33_2
       try clear hcz33_3
       try clear hcz36_0
       try clear hcz36_1
       try clear hcz36_2
       try clear hcz42_0
       try clear hcz42_1
       try clear hcz42_2
       try clear hcz47_0
       try clear hcz47_1
       try clear hcz47_2
       try clear hcz47_3
       try clear hcz48_0
       try clear hcz48_1
       try clear hcz48_2
       try clear hcz48_3
       try clear hcz8_0
       try clear hcz8_1
       try clear hcz8_2
       try clear hcz8_3
       try clear hfz19_0
       try clear hfz19_1
       try clear hfz19_2
       try clear hfz25_1
       try clear hfz25_2
       try clear hfz25_3
       try clear hfz33_1
       try clear hfz33_2
       try clear hfz33_3
       try clear hfz36_0
       try clear hfz36_1
       try clear hfz36_2
       try clear hfz42_0
       try clear hfz42_1
       try clear hfz42_2
       try clear hfz47_1
       try clear hfz47_2
       try clear hfz47_3
       try clear hfz48_1
       try clear hfz48_2
       try clear hfz48_3
       try clear hfz8_1
       try clear hfz8_2
       try clear hfz8_3
       try clear p2
       obtain ⟨kq, x71_44, rfl, HA, HJ44, HO_5, BK201, HI202, HB⟩ := hcut
       cases kq with
       | zero => exact absurd HA.out (by simp [code_Read.j3])
       | succ kj44 =>
        have H := HA.out
        clear HA
        simp only [code_Read.j3] at H
        have HC49 := Aside0.mk H
        clear H
        go_upto_if 71 with (fail)
        go_cut [] (fun wc => ∃ (kq : Nat) (x203001_48 : Int) (x203002_48 : Int) (x203003_48 : Int), Aside0 (code_Read.j4 kq l0 x5_1 l0 x203001_48 x203002_48 x203003_48 = some (r1, r2, r3)) ∧ Aside0 (kq ≤ kj44) ∧ Aside0 (Kd.R k47 47 wc w.heap.size (fun _ => True) u5 x5_1) ∧ Aside0 (wc.heap[gb201]? = some (.cells #[.int .i64 0, .int .i64 0] 27 (0, 0))) ∧ Aside0 (IsS63 w wc gb202 l0 x203001_48 x203002_48 x203003_48) ∧ Aside0 (Below w.heap.size w wc))
        case first =>
         have H := HC49.out
         clear HC49
         by_cases c50 : x71_44 = true
         ·subst c50
          have H1 : ((code_reader_fail.f l0 x203001_1 x203002_1 x203003_1 1 x203001_1).bind fun bt244 => (code_Read.j4 kj44 l0 x5_1 l0 bt244.1 bt244.2.1 bt244.2.2)) = some (r1, r2, r3) := by rw [if_pos rfl] at H; exact H
          clear H
          have H := H1
          clear H1
          replace H := Option.bind_eq_some_iff.mp H
          obtain ⟨⟨t244, t245, t246⟩, A510, H⟩ := H
          replace H : (code_Read.j4 kj44 l0 x5_1 l0 t244 t245 t246) = some (r1, r2, r3) := H
          have A51 := Aside0.mk A510
          clear A510
          have H' := Aside0.mk H
          clear H
          obtain ⟨ASz52_0, cSz52_0, HGz52, hgz52, HSz52_0⟩ := HI202.out
          have hcz52_0 := cellS63_0 HGz52
          have hcz52_1 := cellS63_1 HGz52
          have hcz52_2 := cellS63_2 HGz52
          have hcz52_3 := cellS63_3 HGz52
          have hfz52_1 := blk_frozen HGz52 1
          have hfz52_2 := blk_frozen HGz52 2
          have hfz52_3 := blk_frozen HGz52 3
          clear HGz52 hgz52
          go_wp2_with (first | ((with_reducible refine gate_callee (f := 39) rfl ?_); refine goesL_ (some 77) rfl rfl Try.func39 (by kernel_rfl) rfl #[.pointer (some ⟨gb202, 0, none⟩), .int .i64 1, .int .i64 x203001_1] rfl zA ?_; (with_reducible refine (code_reader_fail.calls gb202 l0 x203001_1 x203002_1 x203003_1 1 x203001_1 t244 t245 t246 w _ ?side1 ?side2 A51.out).mono ?_); (case side1 => repeat (first | (with_reducible first | exact HI202.out | apply IsS63.alloc | apply IsS63.drewN | apply IsS63.drew | apply IsS63.set_1 | apply IsS63.set_2 | apply IsS63.set_3 | refine IsS63.far ?_ NB202_201.out _) | exact HI202.out)); (case side2 => repeat (first | (with_reducible first | exact HB.out | apply below_alloc | apply pw_below_drewN | apply below_drew1 | refine below_set ?_ (IsS63.ge HI202.out) | refine below_set ?_ GE201.out) | exact HB.out)); rintro e w53 ⟨rfl, hi, hb, hk⟩; refine ⟨_, rfl, ?_⟩; have n0_ := Aside0.mk (Kd.R_mono (Kd.R_keep (IsS63.apart (show IsS63 w _ gb202 l0 x203001_1 x203002_1 x203003_1 from by repeat (first | (with_reducible first | exact HI202.out | apply IsS63.alloc | apply IsS63.drewN | apply IsS63.drew | apply IsS63.set_1 | apply IsS63.set_2 | apply IsS63.set_3 | refine IsS63.far ?_ NB202_201.out _) | exact HI202.out)) (zR HO_5.out) (by decide)) hk (fun _ h => h.2)) (fun _ h => h.1)); have n1_ := Aside0.mk (KeepBut.blk hk (g' := gb201) (o := .cells #[.int .i64 0, .int .i64 0] 27 (0, 0)) (zK BK201.out) NB201_202.out (by simp)); have n2_ := Aside0.mk (hb); have n3_ := Aside0.mk (hi); clear HO_5; clear BK201; clear HB; clear HI202; have HO_5 := n0_; have BK201 := n1_; have HB := n2_; have HI202 := n3_; clear n0_ n1_ n2_ n3_; (try clear hb); (try clear hb2); (try clear hk); (try clear hi)))
          go_meet
          case rel => exact ⟨_, (t244), (t245), (t246), H', ⟨by have := HK1.out; have := HJ5.out; have := HJ44.out; first | omega | exact Nat.le_refl _⟩, ⟨zR HO_5.out⟩, ⟨zK BK201.out⟩, ⟨by repeat (first | (with_reducible first | exact HI202.out | apply IsS63.alloc | apply IsS63.drewN | apply IsS63.drew | apply IsS63.set_1 | apply IsS63.set_2 | apply IsS63.set_3 | refine IsS63.far ?_ NB202_201.out _) | exact HI202.out)⟩, ⟨zD HB.out (IsS63.ge HI202.out) GE201.out⟩⟩
         ·replace c50 := Bool.eq_false_iff.mpr c50
          subst c50
          have H1 : (code_Read.j4 kj44 l0 x5_1 l0 x203001_1 x203002_1 x203003_1) = some (r1, r2, r3) := by rw [if_neg (show ¬ (false = true) by decide)] at H; exact H
          clear H
          have H := H1
          clear H1
          have H' := Aside0.mk H
          clear H
          go_wp2
          go_meet
          case rel => exact ⟨_, (x203001_1), (x203002_1), (x203003_1), H', ⟨by have := HK1.out; have := HJ5.out; have := HJ44.out; first | omega | exact Nat.le_refl _⟩, ⟨zR HO_5.out⟩, ⟨zK BK201.out⟩, ⟨by repeat (first | (with_reducible first | exact HI202.out | apply IsS63.alloc | apply IsS63.drewN | apply IsS63.drew | apply IsS63.set_1 | apply IsS63.set_2 | apply IsS63.set_3 | refine IsS63.far ?_ NB202_201.out _) | exact HI202.out)⟩, ⟨zD HB.out (IsS63.ge HI202.out) GE201.out⟩⟩
        case rest =>
         clear HC49
         try clear c1
         try clear c2
         try clear p2
         try clear c3
         try clear c4
         try clear c5
         try clear p6
         try clear c7
         try clear c7b0
         try clear c9
         try clear c15
         try clear c17
         try clear c18
         try clear c21
         try clear c21b0
         try clear c22
         try clear c22b0
         try clear c22b1
         try clear c24
         try clear c32
         try clear c34
         try clear c35
         try clear c36
         try clear c37
         try clear c38
         try clear c39
         try clear c40
         try clear c41
         try clear c46
         try clear c46b0
         try clear c46b1
         try clear c50
         try clear hcz19_0
         try clear hcz19_1
         try clear hcz19_2
         try clear hcz25_0
         try clear hcz25_1
         try clear hcz25_2
         try clear hcz25_3
         try clear hcz33_0
         try clear hcz33_1
         try clear hcz33_2
         try clear hcz33_3
         try clear hcz36_0
         try clear hcz36_1
         try clear hcz36_2
         try clear hcz42_0
         try clear hcz42_1
         try clear hcz42_2
         try clear hcz47_0
         try clear hcz47_1
         try clear hcz47_2
         try clear hcz47_3
         try clear hcz48_0
         try clear hcz48_1
         try clear hcz48_2
         try clear hcz48_3
         try clear hcz52_0
         try clear hcz52_1
         try clear hcz52_2
         try clear hcz52_3
         try clear hcz8_0
         try clear hcz8_1
         try clear hcz8_2
         try clear hcz8_3
         try clear hfz19_0
         try clear hfz19_1
         try clear hfz19_2
         try clear hfz25_1
         try clear hfz25_2
         try clear hfz25_3
         try clear hfz33_1
         try clear hfz33_2
         try clear hfz33_3
         try clear hfz36_0
         try clear hfz36_1
         try clear hfz36_2
         try clear hfz42_0
         try clear hfz42_1
         try clear hfz42_2
         try clear hfz47_1
         try clear hfz47_2
         try clear hfz47_3
         try clear hfz48_1
         try clear hfz48_2
         try clear hfz48_3
         try clear hfz52_1
         try clear hfz52_2
         try clear hfz52_3
         try clear hfz8_1
         try clear hfz8_2
         try clear hfz8_3
         try clear p2
         try clear p6
         obtain ⟨kq, x203001_48, x203002_48, x203003_48, HA, HJ48, HO_5, BK201, HI202, HB⟩ := hcut
         cases kq with
         | zero => exact absurd HA.out (by simp [code_Read.j4])
         | succ kj48 =>
          have H := HA.out
          clear HA
          simp only [code_Read.j4] at H
          by_cases c54 : x203002_48 = 0
          ·rw [if_pos c54] at H
           have c54b0 : (x203002_48 == 0) = true := beq_iff_eq.mpr c54
           have c54b1 : (x203002_48 != 0) = false := bne_eq_false_iff_eq.mpr c54
           clear c54
           replace H := Option.bind_eq_some_iff.mp H
           obtain ⟨⟨t247, t248⟩, A550, H⟩ := H
           replace H : (if t247 = 0 then (some (x5_1, 0, 0)) else (some (([] : List (S47)), t247, wrap64 ((l0.length : Int) + t248)))) = some (r1, r2, r3) := H
           have A55 := Aside0.mk A550
           clear A550
           by_cases c56 : t247 = 0
           ·rw [if_pos c56] at H
            have c56b0 : (t247 == 0) = true := beq_iff_eq.mpr c56
            have c56b1 : (t247 != 0) = false := bne_eq_false_iff_eq.mpr c56
            clear c56
            simp only [Option.some.injEq, Prod.mk.injEq] at H
            obtain ⟨rfl, rfl, rfl⟩ := H
            obtain ⟨ASz57_0, cSz57_0, HGz57, hgz57, HSz57_0⟩ := HI202.out
            have hcz57_0 := cellS63_0 HGz57
            have hcz57_1 := cellS63_1 HGz57
            have hcz57_2 := cellS63_2 HGz57
            have hcz57_3 := cellS63_3 HGz57
            have hfz57_1 := blk_frozen HGz57 1
            have hfz57_2 := blk_frozen HGz57 2
            have hfz57_3 := blk_frozen HGz57 3
            clear HGz57 hgz57
            obtain ⟨Ao58, co58, eo58⟩ := Kd.R_slice HO_5.out
            subst eo58
            go_wp2_with (first | ((with_reducible refine gate_callee (f := 13) rfl ?_); refine goesL_ (some 89) rfl rfl Try.func13 (by kernel_rfl) rfl #[.slice Ao58 x5_1.length co58] rfl zA ?_; (with_reducible refine (code_Check.calls kj48 _ _ x5_1 t247 t248 _ ?side1 ?side2 A55.out).mono ?_); (case side1 => repeat (first | exact (Kd.R_reads' HO_5.out).2.2 | (with_reducible refine Kd.C_alloc ?_ _) | (with_reducible refine Kd.C_drewN ?_ _) | (with_reducible refine Kd.C_drew ?_))); (case side2 => exact (Kd.R_reads' HO_5.out).2.1); rintro e w59 ⟨rfl, hb⟩; refine ⟨_, rfl, ?_⟩; have n0_ := Aside0.mk (Kd.R_below (zR HO_5.out) hb); have n1_ := Aside0.mk (blk_below (g := gb201) (o := .cells #[.int .i64 0, .int .i64 0] 27 (0, 0)) (zK BK201.out) hb); have n2_ := Aside0.mk (IsS63.below (by repeat (first | (with_reducible first | exact HI202.out | apply IsS63.alloc | apply IsS63.drewN | apply IsS63.drew | apply IsS63.set_1 | apply IsS63.set_2 | apply IsS63.set_3 | refine IsS63.far ?_ NB202_201.out _) | exact HI202.out)) hb); have n3_ := Aside0.mk (below_step (zD HB.out (IsS63.ge HI202.out) GE201.out) hb); clear HO_5; clear BK201; clear HI202; clear HB; have HO_5 := n0_; have BK201 := n1_; have HI202 := n2_; have HB := n3_; clear n0_ n1_ n2_ n3_; (try clear hb); (try clear hb2); (try clear hk); (try clear hi)) | ((with_reducible refine gate_dst (N := 9) rfl ?_); (try (refine gate_guard (by rfl) ?_; dsimp only)); refine box_event ?hg (N := 9) ?hd (cs := #[.int .i64 0, .int .i64 0]) (t := 27) ?hr ?_; (case hd => rfl); (case hg => rfl); (case hr => first | (go_simp; done) | (go_simp; rfl)); intro gb249 hg w60 hbox hb; have n0_ := Aside0.mk (Kd.R_below (zR HO_5.out) hb); have n1_ := Aside0.mk (blk_below (g := gb201) (o := .cells #[.int .i64 0, .int .i64 0] 27 (0, 0)) (zK BK201.out) hb); have n2_ := Aside0.mk (IsS63.below (by repeat (first | (with_reducible first | exact HI202.out | apply IsS63.alloc | apply IsS63.drewN | apply IsS63.drew | apply IsS63.set_1 | apply IsS63.set_2 | apply IsS63.set_3 | refine IsS63.far ?_ NB202_201.out _) | exact HI202.out)) hb); have n3_ := Aside0.mk (below_step (zD HB.out (IsS63.ge HI202.out) GE201.out) hb); have n4_ := Aside0.mk (hbox); have n5_ := Aside0.mk ((by rw [hg]; exact (below_size (zD HB.out (IsS63.ge HI202.out) GE201.out)) : w.heap.size ≤ gb249)); have n6_ := Aside0.mk ((by rw [hg]; exact (below_size (zD HB.out (IsS63.ge HI202.out) GE201.out)) : w.heap.size ≤ gb249)); have n7_ := Aside0.mk ((by rw [hg]; exact Nat.ne_of_lt (blk_lt (g := gb201) (o := .cells #[.int .i64 0, .int .i64 0] 27 (0, 0)) (zK BK201.out)) : gb201 ≠ gb249)); have n8_ := Aside0.mk ((by rw [hg]; exact Nat.ne_of_gt (blk_lt (g := gb201) (o := .cells #[.int .i64 0, .int .i64 0] 27 (0, 0)) (zK BK201.out)) : gb249 ≠ gb201)); have n9_ := Aside0.mk ((by rw [hg]; exact Nat.ne_of_lt (IsS63.lt (show IsS63 w _ gb202 l0 x203001_48 x203002_48 x203003_48 from by repeat (first | (with_reducible first | exact HI202.out | apply IsS63.alloc | apply IsS63.drewN | apply IsS63.drew | apply IsS63.set_1 | apply IsS63.set_2 | apply IsS63.set_3 | refine IsS63.far ?_ NB202_201.out _) | exact HI202.out))) : gb202 ≠ gb249)); have n10_ := Aside0.mk ((by rw [hg]; exact Nat.ne_of_gt (IsS63.lt (show IsS63 w _ gb202 l0 x203001_48 x203002_48 x203003_48 from by repeat (first | (with_reducible first | exact HI202.out | apply IsS63.alloc | apply IsS63.drewN | apply IsS63.drew | apply IsS63.set_1 | apply IsS63.set_2 | apply IsS63.set_3 | refine IsS63.far ?_ NB202_201.out _) | exact HI202.out))) : gb249 ≠ gb202)); clear HO_5; clear BK201; clear HI202; clear HB; have HO_5 := n0_; have BK201 := n1_; have HI202 := n2_; have HB := n3_; have BK249 := n4_; have GW249 := n5_; have GE249 := n6_; have NB201_249 := n7_; have NB249_201 := n8_; have NB202_249 := n9_; have NB249_202 := n10_; clear n0_ n1_ n2_ n3_ n4_ n5_ n6_ n7_ n8_ n9_ n10_; clear hb hbox hg; have hnb61 := NB249_201.out; have hnc61 := NB201_249.out; have hnb62 := NB249_202.out; have hnc62 := NB202_249.out; have hcz63_0 : w60.cell? ⟨gb249, 0, none⟩ = some (.int .i64 0) := (blk_cell BK249.out 0).trans rfl; have hcz63_1 : w60.cell? ⟨gb249, 1, none⟩ = some (.int .i64 0) := (blk_cell BK249.out 1).trans rfl; have hfz63_0 := blk_frozen BK249.out 0; have hfz63_1 := blk_frozen BK249.out 1; have hnb64 := NB201_202.out; have hnc64 := NB202_201.out; have hcz65_0 : w60.cell? ⟨gb201, 0, none⟩ = some (.int .i64 0) := (blk_cell BK201.out 0).trans rfl; have hcz65_1 : w60.cell? ⟨gb201, 1, none⟩ = some (.int .i64 0) := (blk_cell BK201.out 1).trans rfl; have hfz65_0 := blk_frozen BK201.out 0; have hfz65_1 := blk_frozen BK201.out 1))
            refine bodyPost_ret (results_tc rfl _ _ gb201 27 #[.int .i64 0, .int .i64 0] (0, 0) _ rfl (by (with_reducible repeat (first | refine blk_drewN ?_ _ | refine blk_drew ?_ | refine blk_alloc ?_ _)); refine blk_put (cs := #[.int .i64 0, .int .i64 0]) ?_ 1 _ rfl; (with_reducible repeat (first | refine blk_drewN ?_ _ | refine blk_drew ?_ | refine blk_alloc ?_ _)); refine blk_put (cs := #[.int .i64 0, .int .i64 0]) ?_ 0 _ rfl; (with_reducible repeat (first | refine blk_drewN ?_ _ | refine blk_drew ?_ | refine blk_alloc ?_ _)); refine blk_far ?_ NB201_249.out _; (with_reducible repeat (first | refine blk_drewN ?_ _ | refine blk_drew ?_ | refine blk_alloc ?_ _)); refine blk_far ?_ NB201_249.out _; (with_reducible repeat (first | refine blk_drewN ?_ _ | refine blk_drew ?_ | refine blk_alloc ?_ _)); exact BK201.out) Try.underlying27 rfl (by kernel_rfl)) rfl ?_
            exact ⟨_, zF, by (with_reducible repeat (first | apply Kd.R_alloc | apply Kd.R_drewN | apply Kd.R_drew)); exact Kd.R_mono (Kd.R_far (p := ⟨gb201, 1, none⟩) (Kd.R_far (p := ⟨gb201, 0, none⟩) (Kd.R_far (p := ⟨gb249, 1, none⟩) (Kd.R_far (p := ⟨gb249, 0, none⟩) (Kd.R_types (Kd.R_types HO_5.out BK249.out (by decide)) BK201.out (by decide)) (fun _ hk => hk.1.2) (.int .i64 t247)) (fun _ hk => hk.1.2) (.int .i64 t248)) (fun _ hk => hk.2) (.int .i64 0)) (fun _ hk => hk.2) (.int .i64 0)) (fun _ hk => trivial), zE HB.out (IsS63.ge HI202.out) GE201.out GE249.out⟩
           ·rw [if_neg c56] at H
            have c56b0 : (t247 == 0) = false := beq_eq_false_iff_ne.mpr c56
            have c56b1 : (t247 != 0) = true := bne_iff_ne.mpr c56
            simp only [Option.some.injEq, Prod.mk.injEq] at H
            obtain ⟨rfl, rfl, rfl⟩ := H
            obtain ⟨ASz66_0, cSz66_0, HGz66, hgz66, HSz66_0⟩ := HI202.out
            have hcz66_0 := cellS63_0 HGz66
            have hcz66_1 := cellS63_1 HGz66
            have hcz66_2 := cellS63_2 HGz66
            have hcz66_3 := cellS63_3 HGz66
            have hfz66_1 := blk_frozen HGz66 1
            have hfz66_2 := blk_frozen HGz66 2
            have hfz66_3 := blk_frozen HGz66 3
            clear HGz66 hgz66
            obtain ⟨Ao67, co67, eo67⟩ := Kd.R_slice HO_5.out
            subst eo67
            try go_wp2_with (first | ((with_reducible refine gate_callee (f := 13) rfl ?_); refine goesL_ (some 89) rfl rfl Try.func13 (by kernel_rfl) rfl #[.slice Ao67 x5_1.length co67] rfl zA ?_; (with_reducible refine (code_Check.calls kj48 _ _ x5_1 t247 t248 _ ?side1 ?side2 A55.out).mono ?_); (case side1 => repeat (first | exact (Kd.R_reads' HO_5.out).2.2 | (with_reducible refine Kd.C_alloc ?_ _) | (with_reducible refine Kd.C_drewN ?_ _) | (with_reducible refine Kd.C_drew ?_))); (case side2 => exact (Kd.R_reads' HO_5.out).2.1); rintro e w68 ⟨rfl, hb⟩; refine ⟨_, rfl, ?_⟩; have n0_ := Aside0.mk (Kd.R_below (zR HO_5.out) hb); have n1_ := Aside0.mk (blk_below (g := gb201) (o := .cells #[.int .i64 0, .int .i64 0] 27 (0, 0)) (zK BK201.out) hb); have n2_ := Aside0.mk (IsS63.below (by repeat (first | (with_reducible first | exact HI202.out | apply IsS63.alloc | apply IsS63.drewN | apply IsS63.drew | apply IsS63.set_1 | apply IsS63.set_2 | apply IsS63.set_3 | refine IsS63.far ?_ NB202_201.out _) | exact HI202.out)) hb); have n3_ := Aside0.mk (below_step (zD HB.out (IsS63.ge HI202.out) GE201.out) hb); clear HO_5; clear BK201; clear HI202; clear HB; have HO_5 := n0_; have BK201 := n1_; have HI202 := n2_; have HB := n3_; clear n0_ n1_ n2_ n3_; (try clear hb); (try clear hb2); (try clear hk); (try clear hi)) | ((with_reducible refine gate_dst (N := 9) rfl ?_); (try (refine gate_guard (by rfl) ?_; dsimp only)); refine box_event ?hg (N := 9) ?hd (cs := #[.int .i64 0, .int .i64 0]) (t := 27) ?hr ?_; (case hd => rfl); (case hg => rfl); (case hr => first | (go_simp; done) | (go_simp; rfl)); intro gb249 hg w69 hbox hb; have n0_ := Aside0.mk (Kd.R_below (zR HO_5.out) hb); have n1_ := Aside0.mk (blk_below (g := gb201) (o := .cells #[.int .i64 0, .int .i64 0] 27 (0, 0)) (zK BK201.out) hb); have n2_ := Aside0.mk (IsS63.below (by repeat (first | (with_reducible first | exact HI202.out | apply IsS63.alloc | apply IsS63.drewN | apply IsS63.drew | apply IsS63.set_1 | apply IsS63.set_2 | apply IsS63.set_3 | refine IsS63.far ?_ NB202_201.out _) | exact HI202.out)) hb); have n3_ := Aside0.mk (below_step (zD HB.out (IsS63.ge HI202.out) GE201.out) hb); have n4_ := Aside0.mk (hbox); have n5_ := Aside0.mk ((by rw [hg]; exact (below_size (zD HB.out (IsS63.ge HI202.out) GE201.out)) : w.heap.size ≤ gb249)); have n6_ := Aside0.mk ((by rw [hg]; exact (below_size (zD HB.out (IsS63.ge HI202.out) GE201.out)) : w.heap.size ≤ gb249)); have n7_ := Aside0.mk ((by rw [hg]; exact Nat.ne_of_lt (blk_lt (g := gb201) (o := .cells #[.int .i64 0, .int .i64 0] 27 (0, 0)) (zK BK201.out)) : gb201 ≠ gb249)); have n8_ := Aside0.mk ((by rw [hg]; exact Nat.ne_of_gt (blk_lt (g := gb201) (o := .cells #[.int .i64 0, .int .i64 0] 27 (0, 0)) (zK BK201.out)) : gb249 ≠ gb201)); have n9_ := Aside0.mk ((by rw [hg]; exact Nat.ne_of_lt (IsS63.lt (show IsS63 w _ gb202 l0 x203001_48 x203002_48 x203003_48 from by repeat (first | (with_reducible first | exact HI202.out | apply IsS63.alloc | apply IsS63.drewN | apply IsS63.drew | apply IsS63.set_1 | apply IsS63.set_2 | apply IsS63.set_3 | refine IsS63.far ?_ NB202_201.out _) | exact HI202.out))) : gb202 ≠ gb249)); have n10_ := Aside0.mk ((by rw [hg]; exact Nat.ne_of_gt (IsS63.lt (show IsS63 w _ gb202 l0 x203001_48 x203002_48 x203003_48 from by repeat (first | (with_reducible first | exact HI202.out | apply IsS63.alloc | apply IsS63.drewN | apply IsS63.drew | apply IsS63.set_1 | apply IsS63.set_2 | apply IsS63.set_3 | refine IsS63.far ?_ NB202_201.out _) | exact HI202.out))) : gb249 ≠ gb202)); clear HO_5; clear BK201; clear HI202; clear HB; have HO_5 := n0_; have BK201 := n1_; have HI202 := n2_; have HB := n3_; have BK249 := n4_; have GW249 := n5_; have GE249 := n6_; have NB201_249 := n7_; have NB249_201 := n8_; have NB202_249 := n9_; have NB249_202 := n10_; clear n0_ n1_ n2_ n3_ n4_ n5_ n6_ n7_ n8_ n9_ n10_; clear hb hbox hg; have hnb70 := NB249_201.out; have hnc70 := NB201_249.out; have hnb71 := NB249_202.out; have hnc71 := NB202_249.out; have hcz72_0 : w69.cell? ⟨gb249, 0, none⟩ = some (.int .i64 0) := (blk_cell BK249.out 0).trans rfl; have hcz72_1 : w69.cell? ⟨gb249, 1, none⟩ = some (.int .i64 0) := (blk_cell BK249.out 1).trans rfl; have hfz72_0 := blk_frozen BK249.out 0; have hfz72_1 := blk_frozen BK249.out 1))
            have n0_ : Aside0 (Kd.R k47 47 ((w69.setCell ⟨gb249, 0, none⟩ (.int .i64 t247)).setCell ⟨gb249, 1, none⟩ (.int .i64 t248)) w.heap.size (fun _ => True) (.slice Ao67 x5_1.length co67) x5_1) := ⟨by (with_reducible repeat (first | apply Kd.R_alloc | apply Kd.R_drewN | apply Kd.R_drew)); exact Kd.R_mono (Kd.R_far (p := ⟨gb249, 1, none⟩) (Kd.R_far (p := ⟨gb249, 0, none⟩) (Kd.R_types HO_5.out BK249.out (by decide)) (fun _ hk => hk.2) (.int .i64 t247)) (fun _ hk => hk.2) (.int .i64 t248)) (fun _ hk => trivial)⟩
            have n1_ : Aside0 (((w69.setCell ⟨gb249, 0, none⟩ (.int .i64 t247)).setCell ⟨gb249, 1, none⟩ (.int .i64 t248)).heap[gb201]? = some (.cells #[.int .i64 0, .int .i64 0] 27 (0, 0))) := ⟨by (with_reducible repeat (first | refine blk_drewN ?_ _ | refine blk_drew ?_ | refine blk_alloc ?_ _)); refine blk_far ?_ NB201_249.out _; (with_reducible repeat (first | refine blk_drewN ?_ _ | refine blk_drew ?_ | refine blk_alloc ?_ _)); refine blk_far ?_ NB201_249.out _; (with_reducible repeat (first | refine blk_drewN ?_ _ | refine blk_drew ?_ | refine blk_alloc ?_ _)); exact BK201.out⟩
            have n2_ : Aside0 (((w69.setCell ⟨gb249, 0, none⟩ (.int .i64 t247)).setCell ⟨gb249, 1, none⟩ (.int .i64 t248)).heap[gb249]? = some (.cells #[.int .i64 t247, .int .i64 t248] 27 (0, 0))) := ⟨by (with_reducible repeat (first | refine blk_drewN ?_ _ | refine blk_drew ?_ | refine blk_alloc ?_ _)); refine blk_put (cs := #[.int .i64 t247, .int .i64 0]) ?_ 1 _ rfl; (with_reducible repeat (first | refine blk_drewN ?_ _ | refine blk_drew ?_ | refine blk_alloc ?_ _)); refine blk_put (cs := #[.int .i64 0, .int .i64 0]) ?_ 0 _ rfl; (with_reducible repeat (first | refine blk_drewN ?_ _ | refine blk_drew ?_ | refine blk_alloc ?_ _)); exact BK249.out⟩
            have n3_ : Aside0 (IsS63 w ((w69.setCell ⟨gb249, 0, none⟩ (.int .i64 t247)).setCell ⟨gb249, 1, none⟩ (.int .i64 t248)) gb202 l0 x203001_48 x203002_48 x203003_48) := ⟨by repeat (first | (with_reducible first | exact HI202.out | apply IsS63.alloc | apply IsS63.drewN | apply IsS63.drew | apply IsS63.set_1 | apply IsS63.set_2 | apply IsS63.set_3 | refine IsS63.far ?_ NB202_201.out _ | refine IsS63.far ?_ NB202_249.out _) | exact HI202.out)⟩
            have n4_ : Aside0 (Below w.heap.size w ((w69.setCell ⟨gb249, 0, none⟩ (.int .i64 t247)).setCell ⟨gb249, 1, none⟩ (.int .i64 t248))) := ⟨zE HB.out (IsS63.ge HI202.out) GE201.out GE249.out⟩
            (try clear HO_5)
            (try clear BK201)
            (try clear BK249)
            (try clear HI202)
            (try clear HB)
            generalize ((w69.setCell ⟨gb249, 0, none⟩ (.int .i64 t247)).setCell ⟨gb249, 1, none⟩ (.int .i64 t248)) = w73 at n0_ n1_ n2_ n3_ n4_ ⊢
            have HO_5 := n0_
            have BK201 := n1_
            have BK249 := n2_
            have HI202 := n3_
            have HB := n4_
            clear n0_ n1_ n2_ n3_ n4_
            have n0_ := Aside0.mk (Kd.R_drew HO_5.out)
            have n1_ := Aside0.mk (blk_drew BK201.out)
            have n2_ := Aside0.mk (blk_drew BK249.out)
            have n3_ := Aside0.mk (IsS63.drew HI202.out)
            have n4_ := Aside0.mk (below_drew1 HB.out)
            clear HO_5
            clear BK201
            clear BK249
            clear HI202
            clear HB
            have HO_5 := n0_
            have BK201 := n1_
            have BK249 := n2_
            have HI202 := n3_
            have HB := n4_
            clear n0_ n1_ n2_ n3_ n4_
            refine start_ (n := 10) (S := fun w' => w'.cell? ⟨gb249, 0, none⟩ = some (.int .i64 t247) ∧ w'.cell? ⟨gb249, 1, none⟩ = some (.int .i64 t248)) (ds := []) #[false, false, false, false, false, false, false, false, false, false] (by kernel_rfl) rfl rfl ⟨(blk_cell BK249.out 0).trans rfl, (blk_cell BK249.out 1).trans rfl⟩ (fun hHeld => ?_); refine with_tabW code_Read.tab18 code_Read.bits18 (fun HT_ HW_ => ?_)
            generalize w73.drew = w74 at HO_5 BK201 BK249 HI202 HB hHeld ⊢
            refine pure_ (i := 0) (N := some 93) (v := ?_) (a' := ?_) #[true, false, false, false, false, false, false, false, false, false] rfl rfl (any_of HT_.out (by kernel_rfl)) (fun _ _ _ h => h) (Or.inl ⟨by rfl, ?_⟩) ?_ ?_
            rotate_left
            ·intro w'
             go_simp
             with_reducible rfl
            rotate_left
            ·simp only [Act.put, List.setIfInBounds_toArray, List.set_cons_zero, List.set_cons_succ, i64_w, i32_w]
             rfl
            refine pure_ (i := 2) (N := some 95) (v := ?_) (a' := ?_) #[true, false, true, false, false, false, false, false, false, false] rfl rfl (any_of HT_.out (by kernel_rfl)) (fun _ _ _ h => h) (Or.inl ⟨by rfl, ?_⟩) ?_ ?_
            rotate_left
            ·intro w'
             go_simp
             with_reducible rfl
            rotate_left
            ·simp only [Act.put, List.setIfInBounds_toArray, List.set_cons_zero, List.set_cons_succ, i64_w, i32_w]
             rfl
            refine pure_ (i := 3) (N := some 96) (v := ?_) (a' := ?_) #[true, false, true, true, false, false, false, false, false, false] rfl rfl (any_of HT_.out (by kernel_rfl)) (fun _ _ _ h => h) (Or.inl ⟨by rfl, ?_⟩) ?_ ?_
            rotate_left
            ·intro w'
             go_simp
             with_reducible rfl
            rotate_left
            ·simp only [Act.put, List.setIfInBounds_toArray, List.set_cons_zero, List.set_cons_succ, i64_w, i32_w]
             rfl
            refine pure_ (i := 4) (N := some 97) (v := ?_) (a' := ?_) #[true, false, true, true, true, false, false, false, false, false] rfl rfl (any_of HT_.out (by kernel_rfl)) (fun _ _ _ h => h) (Or.inl ⟨by rfl, ?_⟩) ?_ ?_
            rotate_left
            ·intro w'
             go_simp
             with_reducible rfl
            rotate_left
            ·simp only [Act.put, List.setIfInBounds_toArray, List.set_cons_zero, List.set_cons_succ, i64_w, i32_w]
             rfl
            refine pure_ (i := 8) (N := some 2) (v := ?_) (a' := ?_) #[true, false, true, true, true, false, false, false, true, false] rfl rfl (any_of HT_.out (by kernel_rfl)) (fun _ _ _ h => h) (Or.inl ⟨by rfl, ?_⟩) ?_ ?_
            rotate_left
            ·intro w'
             go_simp
             with_reducible rfl
            rotate_left
            ·simp only [Act.put, List.setIfInBounds_toArray, List.set_cons_zero, List.set_cons_succ, i64_w, i32_w]
             rfl
            refine take_ (i := 1) (N := some 94) (v := ?_) (a' := ?_) #[true, true, true, true, true, false, false, false, true, false] rfl rfl (take_ofW HT_.out HW_.out (by kernel_rfl)) (fun _ _ _ h => h) (Or.inl ⟨by rfl, ?_⟩) hHeld ?_ ?_
            rotate_left
            ·rintro w' ⟨s0, s1⟩
             go_simp
             with_reducible rfl
            rotate_left
            ·simp only [Act.put, List.setIfInBounds_toArray, List.set_cons_zero, List.set_cons_succ, i64_w, i32_w]
             rfl
            refine take_ (i := 5) (N := some 98) (v := ?_) (a' := ?_) #[true, true, true, true, true, true, false, false, true, false] rfl rfl (take_ofW HT_.out HW_.out (by kernel_rfl)) (fun _ _ _ h => h) (Or.inl ⟨by rfl, ?_⟩) hHeld ?_ ?_
            rotate_left
            ·rintro w' ⟨s0, s1⟩
             go_simp
             with_reducible rfl
            rotate_left
            ·simp only [Act.put, List.setIfInBounds_toArray, List.set_cons_zero, List.set_cons_succ, i64_w, i32_w]
             rfl
            refine pure_ (i := 6) (N := some 99) (v := ?_) (a' := ?_) #[true, true, true, true, true, true, true, false, true, false] rfl rfl (any_of HT_.out (by kernel_rfl)) (fun _ _ _ h => h) (Or.inl ⟨by rfl, ?_⟩) ?_ ?_
            rotate_left
            ·intro w'
             go_simp
             with_reducible rfl
            rotate_left
            ·simp only [Act.put, List.setIfInBounds_toArray, List.set_cons_zero, List.set_cons_succ, i64_w, i32_w]
             rfl
            refine pure_ (i := 7) (N := some 100) (v := ?_) (a' := ?_) #[true, true, true, true, true, true, true, true, true, false] rfl rfl (any_of HT_.out (by kernel_rfl)) (fun _ _ _ h => h) (Or.inl ⟨by rfl, ?_⟩) ?_ ?_
            rotate_left
            ·intro w'
             go_simp
             with_reducible rfl
            rotate_left
            ·simp only [Act.put, List.setIfInBounds_toArray, List.set_cons_zero, List.set_cons_succ, i64_w, i32_w]
             rfl
            refine one_ (i := 9) (N := none) #[true, true, true, true, true, true, true, true, true, true] rfl rfl (one_of HT_.out (by kernel_rfl)) (by decide) (fun K hK => ?_)
            have hs75 : w74.cell? ⟨gb201, 0, none⟩ = some (.int .i64 0) := (blk_cell BK201.out 0).trans rfl
            have hfs75 := blk_frozen BK201.out 0
            have hns75_1 := NB249_201.out
            have hms75_1 := NB201_249.out
            have hs76 : w74.cell? ⟨gb201, 1, none⟩ = some (.int .i64 0) := (blk_cell BK201.out 1).trans rfl
            have hfs76 := blk_frozen BK201.out 1
            have hns76_1 := NB249_201.out
            have hms76_1 := NB201_249.out
            refine skip_ (w1 := ?_) (by rfl) rfl ?_ ?_
            rotate_left
            ·go_simp
             rfl
            refine hK.out _ _ ⟨((cell_far (p := ⟨gb201, _, none⟩) NB249_201.out _).trans (((cell_far (p := ⟨gb201, _, none⟩) NB249_201.out _).trans (hHeld.1)))), ((cell_far (p := ⟨gb201, _, none⟩) NB249_201.out _).trans (((cell_far (p := ⟨gb201, _, none⟩) NB249_201.out _).trans (hHeld.2))))⟩ (fun hHeld => ?_)
            clear hK K
            refine done_ (done_of HT_.out (by kernel_rfl)) ?_
            try go_wp2
            refine bodyPost_ret (results_tc rfl _ _ gb201 27 #[.int .i64 t247, .int .i64 (wrap64 ((l0.length : Int) + t248))] (0, 0) _ rfl (by (with_reducible repeat (first | refine blk_drewN ?_ _ | refine blk_drew ?_ | refine blk_alloc ?_ _)); refine blk_put (cs := #[.int .i64 t247, .int .i64 0]) ?_ 1 _ rfl; (with_reducible repeat (first | refine blk_drewN ?_ _ | refine blk_drew ?_ | refine blk_alloc ?_ _)); refine blk_put (cs := #[.int .i64 0, .int .i64 0]) ?_ 0 _ rfl; (with_reducible repeat (first | refine blk_drewN ?_ _ | refine blk_drew ?_ | refine blk_alloc ?_ _)); exact BK201.out) Try.underlying27 rfl (by kernel_rfl)) rfl ?_
            exact ⟨_, zF, by first | exact Kd.R_nil _ _ _ _ _ | exact Kd.N_nil _ _ _ _ _ | exact Kd.V_nil _ _ _ _ _ | exact Kd.Q_nil _ _ _ _ _ | exact Kd.S_nil _ _ _ _ _, zE HB.out (IsS63.ge HI202.out) GE201.out GE249.out⟩
          ·rw [if_neg c54] at H
           have c54b0 : (x203002_48 == 0) = false := beq_eq_false_iff_ne.mpr c54
           have c54b1 : (x203002_48 != 0) = true := bne_iff_ne.mpr c54
           simp only [Option.some.injEq, Prod.mk.injEq] at H
           obtain ⟨rfl, rfl, rfl⟩ := H
           obtain ⟨ASz77_0, cSz77_0, HGz77, hgz77, HSz77_0⟩ := HI202.out
           have hcz77_0 := cellS63_0 HGz77
           have hcz77_1 := cellS63_1 HGz77
           have hcz77_2 := cellS63_2 HGz77
           have hcz77_3 := cellS63_3 HGz77
           have hfz77_1 := blk_frozen HGz77 1
           have hfz77_2 := blk_frozen HGz77 2
           have hfz77_3 := blk_frozen HGz77 3
           clear HGz77 hgz77
           try go_wp2
           have n0_ := Aside0.mk (Kd.R_drew HO_5.out)
           have n1_ := Aside0.mk (blk_drew BK201.out)
           have n2_ := Aside0.mk (IsS63.drew HI202.out)
           have n3_ := Aside0.mk (below_drew1 HB.out)
           clear HO_5
           clear BK201
           clear HI202
           clear HB
           have HO_5 := n0_
           have BK201 := n1_
           have HI202 := n2_
           have HB := n3_
           clear n0_ n1_ n2_ n3_
           refine start_ (n := 6) (S := fun w' => w'.cell? ⟨gb202, 1, none⟩ = some (.int .i64 x203001_48) ∧ w'.cell? ⟨gb202, 2, none⟩ = some (.int .i64 x203002_48) ∧ w'.cell? ⟨gb202, 3, none⟩ = some (.int .i64 x203003_48)) (ds := []) #[false, false, false, false, false, false] (by kernel_rfl) rfl rfl ⟨(by obtain ⟨_, _, HG_, _⟩ := HI202.out; exact cellS63_1 HG_), (by obtain ⟨_, _, HG_, _⟩ := HI202.out; exact cellS63_2 HG_), (by obtain ⟨_, _, HG_, _⟩ := HI202.out; exact cellS63_3 HG_)⟩ (fun hHeld => ?_)
           generalize wc.drew = w78 at HO_5 BK201 HI202 HB hHeld ⊢
           refine pure_ (i := 0) (N := some 84) (v := ?_) (a' := ?_) #[true, false, false, false, false, false] rfl rfl (by kernel_rfl) (fun _ _ _ h => h) (Or.inl ⟨by rfl, ?_⟩) ?_ ?_
           rotate_left
           ·intro w'
            go_simp
            with_reducible rfl
           rotate_left
           ·simp only [Act.put, List.setIfInBounds_toArray, List.set_cons_zero, List.set_cons_succ, i64_w, i32_w]
            rfl
           refine pure_ (i := 1) (N := some 85) (v := ?_) (a' := ?_) #[true, true, false, false, false, false] rfl rfl (by kernel_rfl) (fun _ _ _ h => h) (Or.inl ⟨by rfl, ?_⟩) ?_ ?_
           rotate_left
           ·intro w'
            go_simp
            with_reducible rfl
           rotate_left
           ·simp only [Act.put, List.setIfInBounds_toArray, List.set_cons_zero, List.set_cons_succ, i64_w, i32_w]
            rfl
           refine pure_ (i := 2) (N := some 86) (v := ?_) (a' := ?_) #[true, true, true, false, false, false] rfl rfl (by kernel_rfl) (fun _ _ _ h => h) (Or.inl ⟨by rfl, ?_⟩) ?_ ?_
           rotate_left
           ·intro w'
            go_simp
            with_reducible rfl
           rotate_left
           ·simp only [Act.put, List.setIfInBounds_toArray, List.set_cons_zero, List.set_cons_succ, i64_w, i32_w]
            rfl
           refine pure_ (i := 4) (N := some 2) (v := ?_) (a' := ?_) #[true, true, true, false, true, false] rfl rfl (by kernel_rfl) (fun _ _ _ h => h) (Or.inl ⟨by rfl, ?_⟩) ?_ ?_
           rotate_left
           ·intro w'
            go_simp
            with_reducible rfl
           rotate_left
           ·simp only [Act.put, List.setIfInBounds_toArray, List.set_cons_zero, List.set_cons_succ, i64_w, i32_w]
            rfl
           refine take_ (i := 3) (N := some 87) (v := ?_) (a' := ?_) #[true, true, true, true, true, false] rfl rfl (by kernel_rfl) (fun _ _ _ h => h) (Or.inl ⟨by rfl, ?_⟩) hHeld ?_ ?_
           rotate_left
           ·rintro w' ⟨s0, s1, s2⟩
            go_simp
            with_reducible rfl
           rotate_left
           ·simp only [Act.put, List.setIfInBounds_toArray, List.set_cons_zero, List.set_cons_succ, i64_w, i32_w]
            rfl
           refine one_ (i := 5) (N := none) #[true, true, true, true, true, true] rfl rfl (by kernel_rfl) (by decide) (fun K hK => ?_)
           have hs79 : w78.cell? ⟨gb201, 0, none⟩ = some (.int .i64 0) := (blk_cell BK201.out 0).trans rfl
           have hfs79 := blk_frozen BK201.out 0
           have hs80 : w78.cell? ⟨gb201, 1, none⟩ = some (.int .i64 0) := (blk_cell BK201.out 1).trans rfl
           have hfs80 := blk_frozen BK201.out 1
           refine skip_ (w1 := ?_) (by rfl) rfl ?_ ?_
           rotate_left
           ·go_simp
            rfl
           refine hK.out _ _ ⟨((cell_far (p := ⟨gb201, _, none⟩) NB202_201.out _).trans (((cell_far (p := ⟨gb201, _, none⟩) NB202_201.out _).trans (hHeld.1)))), ((cell_far (p := ⟨gb201, _, none⟩) NB202_201.out _).trans (((cell_far (p := ⟨gb201, _, none⟩) NB202_201.out _).trans (hHeld.2.1)))), ((cell_far (p := ⟨gb201, _, none⟩) NB202_201.out _).trans (((cell_far (p := ⟨gb201, _, none⟩) NB202_201.out _).trans (hHeld.2.2))))⟩ (fun hHeld => ?_)
           clear hK K
           refine done_ (by kernel_rfl) ?_
           try go_wp2
           refine bodyPost_ret (results_tc rfl _ _ gb201 27 #[.int .i64 x203002_48, .int .i64 x203003_48] (0, 0) _ rfl (by (with_reducible repeat (first | refine blk_drewN ?_ _ | refine blk_drew ?_ | refine blk_alloc ?_ _)); refine blk_put (cs := #[.int .i64 x203002_48, .int .i64 0]) ?_ 1 _ rfl; (with_reducible repeat (first | refine blk_drewN ?_ _ | refine blk_drew ?_ | refine blk_alloc ?_ _)); refine blk_put (cs := #[.int .i64 0, .int .i64 0]) ?_ 0 _ rfl; (with_reducible repeat (first | refine blk_drewN ?_ _ | refine blk_drew ?_ | refine blk_alloc ?_ _)); exact BK201.out) Try.underlying27 rfl (by kernel_rfl)) rfl ?_
           exact ⟨_, zF, by first | exact Kd.R_nil _ _ _ _ _ | exact Kd.N_nil _ _ _ _ _ | exact Kd.V_nil _ _ _ _ _ | exact Kd.Q_nil _ _ _ _ _ | exact Kd.S_nil _ _ _ _ _, zD HB.out (IsS63.ge HI202.out) GE201.out⟩

end Go.Proofs.Ytpjehipemljkpaa.PCo
