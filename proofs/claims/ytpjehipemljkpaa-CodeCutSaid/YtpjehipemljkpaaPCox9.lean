-- PRINTED by a turned copy of the kit's print (patch_print.py); not typed by hand. Lean checks it.
import Derived.Test.YtpjehipemljkpaaPCox0
import Derived.Test.YtpjehipemljkpaaPCox8
import Derived.Test.YtpjehipemljkpaaZip
namespace Go.Proofs.Ytpjehipemljkpaa.PCo
open Go.RowKit Go.Proofs.YtpjehipemljkpaaW.PrintWords Go.Proofs.YtpjehipemljkpaaW.PrintLast Go.Proofs.YtpjehipemljkpaaW.PrintMore Go.Proofs.Ytpjehipemljkpaa.Zip
attribute [local go_sem] max2_int min2_int max_two min_two max_three min_three max_four min_four   -- for this text's walks alone
set_option linter.unusedVariables false
set_option linter.unusedSimpArgs false

/-! ### code_Bytes: function 16 -/
mutual
def code_Bytes.l0 : Nat → List Int → List (S47) → Int → Int → Option (List Int)
 | 0, _, _, _, _ => none
 | k + 1, x3, x12, x13, x14 => if x14 < x13 then (if 0 ≤ x14 then (if x14 < (x12.length : Int) then ((code_slotList.f k x3 ((rd_T47 x12 x14).f0)).bind fun t303 => ((code_put.f k t303 (IntKind.u64.wrap ((rd_T47 x12 x14).f1))).bind fun t306 => ((code_put.f k t306 (IntKind.u64.wrap ((((rd_T47 x12 x14).f2).length : Int)))).bind fun t309 => (code_Bytes.l1 k t309 x12 x13 x14 ((rd_T47 x12 x14).f2) (((rd_T47 x12 x14).f2).length : Int) 0)))) else (none)) else (none)) else (some x3)
def code_Bytes.l1 : Nat → List Int → List (S47) → Int → Int → List (S51) → Int → Int → Option (List Int)
 | 0, _, _, _, _, _, _, _ => none
 | k + 1, x3, x12, x13, x14, x33, x34, x35 => if x35 < x34 then (if 0 ≤ x35 then (if x35 < (x33.length : Int) then ((code_instBytes.f k x3 ((rd_T51 x33 x35).f0) ((rd_T51 x33 x35).f1) ((rd_T51 x33 x35).f2) ((rd_T51 x33 x35).f3) ((rd_T51 x33 x35).f4) ((rd_T51 x33 x35).f5) ((rd_T51 x33 x35).f6.f0) ((rd_T51 x33 x35).f6.f1)).bind fun t314 => (code_Bytes.l1 k t314 x12 x13 x14 x33 x34 (wrap64 (x35 + 1)))) else (none)) else (none)) else (code_Bytes.l0 k x3 x12 x13 (wrap64 (x14 + 1)))
end
def code_Bytes.f (k : Nat) (l0 : List (S47)) : Option (List Int) := (code_put.f k ([] : List Int) (IntKind.u64.wrap ((l0.length : Int)))).bind fun t298 => (code_Bytes.l0 k t298 l0 (l0.length : Int) 0)
theorem code_Bytes.mono_l : ∀ k, (∀ y0 y1 y2 y3, LeO (code_Bytes.l0 k y0 y1 y2 y3) (code_Bytes.l0 (k + 1) y0 y1 y2 y3)) ∧ (∀ y0 y1 y2 y3 y4 y5 y6, LeO (code_Bytes.l1 k y0 y1 y2 y3 y4 y5 y6) (code_Bytes.l1 (k + 1) y0 y1 y2 y3 y4 y5 y6))
 | 0 => ⟨fun _ _ _ _ r h => by simp [code_Bytes.l0] at h, fun _ _ _ _ _ _ _ r h => by simp [code_Bytes.l1] at h⟩
 | k + 1 => by
  obtain ⟨ih0, ih1⟩ := code_Bytes.mono_l k
  refine ⟨?_, ?_⟩
  ·intro y0 y1 y2 y3
   unfold code_Bytes.l0
   repeat' first
   | (with_reducible exact ih0 _ _ _ _)
   | (with_reducible exact ih1 _ _ _ _ _ _ _)
   | (with_reducible exact code_instBytes.mono _ _ _ _ _ _ _ _ _ _)
   | (with_reducible exact code_put.mono _ _ _)
   | (with_reducible exact code_slotList.mono _ _ _)
   | (with_reducible exact LeO.refl _)
   | (with_reducible exact LeO.none _)
   | (with_reducible refine LeO.ite ?_ ?_)
   | (with_reducible refine LeO.bind ?_ (fun _ => ?_))
   | exact ih0 _ _ _ _
   | exact ih1 _ _ _ _ _ _ _
   | exact code_instBytes.mono _ _ _ _ _ _ _ _ _ _
   | exact code_put.mono _ _ _
   | exact code_slotList.mono _ _ _
   | exact LeO.none _
   | refine LeO.ite ?_ ?_
   | refine LeO.bind ?_ (fun _ => ?_)
  ·intro y0 y1 y2 y3 y4 y5 y6
   unfold code_Bytes.l1
   repeat' first
   | (with_reducible exact ih0 _ _ _ _)
   | (with_reducible exact ih1 _ _ _ _ _ _ _)
   | (with_reducible exact code_instBytes.mono _ _ _ _ _ _ _ _ _ _)
   | (with_reducible exact code_put.mono _ _ _)
   | (with_reducible exact code_slotList.mono _ _ _)
   | (with_reducible exact LeO.refl _)
   | (with_reducible exact LeO.none _)
   | (with_reducible refine LeO.ite ?_ ?_)
   | (with_reducible refine LeO.bind ?_ (fun _ => ?_))
   | exact ih0 _ _ _ _
   | exact ih1 _ _ _ _ _ _ _
   | exact code_instBytes.mono _ _ _ _ _ _ _ _ _ _
   | exact code_put.mono _ _ _
   | exact code_slotList.mono _ _ _
   | exact LeO.none _
   | refine LeO.ite ?_ ?_
   | refine LeO.bind ?_ (fun _ => ?_)
theorem code_Bytes.mono : ∀ a0 k, LeO (code_Bytes.f k a0) (code_Bytes.f (k + 1) a0) := by
 intro a0 k
 obtain ⟨ih0, ih1⟩ := code_Bytes.mono_l k
 unfold code_Bytes.f
 repeat' first
   | (with_reducible exact ih0 _ _ _ _)
   | (with_reducible exact ih1 _ _ _ _ _ _ _)
   | (with_reducible exact code_instBytes.mono _ _ _ _ _ _ _ _ _ _)
   | (with_reducible exact code_put.mono _ _ _)
   | (with_reducible exact code_slotList.mono _ _ _)
   | (with_reducible exact LeO.refl _)
   | (with_reducible exact LeO.none _)
   | (with_reducible refine LeO.ite ?_ ?_)
   | (with_reducible refine LeO.bind ?_ (fun _ => ?_))
   | exact ih0 _ _ _ _
   | exact ih1 _ _ _ _ _ _ _
   | exact code_instBytes.mono _ _ _ _ _ _ _ _ _ _
   | exact code_put.mono _ _ _
   | exact code_slotList.mono _ _ _
   | exact LeO.none _
   | refine LeO.ite ?_ ?_
   | refine LeO.bind ?_ (fun _ => ?_)
def code_Bytes.T5 : Bool × List (List Nat × List Nat) := (true, [([], []), ([], []), ([1], [1]), ([0, 2], [0, 2]), ([], []), ([4], [4]), ([5], [5]), ([3, 6, 3], [3, 6]), ([7, 7, 0, 1, 2, 3, 4, 5, 6, 7], [0, 7])])
def code_Bytes.B5 : List Nat := [0, 0, 2, 7, 0, 16, 48, 127, 255]
theorem code_Bytes.tab5 : rtab .any (opsOf Try.f16 5) = code_Bytes.T5 := by kernel_rfl
theorem code_Bytes.bits5 : waitsOk code_Bytes.T5.2 code_Bytes.B5 = true := by kernel_rfl
set_option maxHeartbeats 8000000 in
set_option maxRecDepth 100000 in
theorem code_Bytes.calls (k : Nat) (A0 : Option Addr) (c0 : Nat) (l0 : List (S47)) (r : List Int) (w : World) (hr0 : Kd.C k47 w A0 l0.length l0) (hc0 : l0.length ≤ c0) (h : code_Bytes.f k l0 = some r) :
  Calls Try.prog 16 #[.slice A0 l0.length c0] w fun e w' => ∃ v0_ : Value, e = .returned (v0_) ∧ Kd.R (Kd.int .u8) 5 w' w.heap.size (fun _ => True) v0_ r ∧ Below w.heap.size w w' := by
 have hu47 := Try.underlying47
 have hu51 := Try.underlying51
 have HR0 := Aside0.mk hr0
 have HC0 := Aside0.mk hc0
 clear hr0 hc0
 have HB := Aside0.mk (Below.refl w.heap.size w)
 have H : ((code_put.f k ([] : List Int) (IntKind.u64.wrap ((l0.length : Int)))).bind fun t298 => (code_Bytes.l0 k t298 l0 (l0.length : Int) 0)) = some r := h
 clear h
 replace H := Option.bind_eq_some_iff.mp H
 obtain ⟨t298, A20, H⟩ := H
 replace H : (code_Bytes.l0 k t298 l0 (l0.length : Int) 0) = some r := H
 have A2 := Aside0.mk A20
 clear A20
 have H' := Aside0.mk H
 clear H
 go_enter Try.func16, Try.ntmps16
 go_wp2_with (first | ((with_reducible refine gate_callee (f := 40) rfl ?_); refine goesL_ (some 11) rfl rfl Try.func40 (by kernel_rfl) rfl #[.slice none 0 0, .int .u64 (IntKind.u64.wrap ((l0.length : Int)))] rfl zA ?_; (refine (code_put.calls k (fun k_ => some k_ = (.slice none 0 0 : Value).ownBlock) (.slice none 0 0) ([] : List Int) (IntKind.u64.wrap ((l0.length : Int))) t298 w _ ?side1 ?side2 A2.out).mono ?_); (case side1 => repeat (first | (with_reducible first | exact HB.out | apply below_alloc | apply pw_below_drewN | apply below_drew1) | exact HB.out)); (case side2 => exact Kd.R_nil _ _ _ _ _); rintro e w3 ⟨v299, rfl, ho0, hb, hkp⟩; refine ⟨_, rfl, ?_⟩; have n0_ := Aside0.mk (Kd.R_mono (ok' := fun k_ => True) ho0 (fun k_ hk_ => trivial)); have n1_ := Aside0.mk (hb); clear HB; have HO300 := n0_; have HB := n1_; clear n0_ n1_; (try clear hb); (try clear hkp); (try clear ho0)))
 go_loopg [3, 14] k (fun kq v3 v14 w' => ∃ (x3_1 : List Int) (x14_1 : Int), v14 = .int .i64 x14_1 ∧ Aside0 (code_Bytes.l0 kq x3_1 l0 (l0.length : Int) x14_1 = some r) ∧ Aside0 (kq ≤ k) ∧ Aside0 (Kd.R (Kd.int .u8) 5 w' w.heap.size (fun _ => True) v3 x3_1) ∧ Aside0 (Below w.heap.size w w'))
 case atStart => exact ⟨(t298), (0), (by first | rfl | (simp; done) | (simp [*]; done)), H', ⟨Nat.le_refl _⟩, ⟨zR HO300.out⟩, ⟨zB HB.out⟩⟩
 case round =>
  clear H'
  try clear c1
  try clear p2
  obtain ⟨x3_1, x14_1, rfl, HA, HK1, HO_3, HB⟩ := hrel
  cases gk with
  | zero => exact absurd HA.out (by simp [code_Bytes.l0])
  | succ k1 =>
   have H := HA.out
   clear HA
   simp only [code_Bytes.l0] at H
   by_cases c4 : x14_1 < (l0.length : Int)
   ·rw [if_pos c4] at H
    have c4b0 : decide (x14_1 < (l0.length : Int)) = true := decide_eq_true c4
    clear c4
    by_cases c5 : 0 ≤ x14_1
    ·rw [if_pos c5] at H
     have c5b0 : decide (0 ≤ x14_1) = true := decide_eq_true c5
     clear c5
     by_cases c6 : x14_1 < (l0.length : Int)
     ·rw [if_pos c6] at H
      have c6b0 : decide (x14_1 < (l0.length : Int)) = true := decide_eq_true c6
      clear c6
      replace H := Option.bind_eq_some_iff.mp H
      obtain ⟨t303, A70, H⟩ := H
      replace H : ((code_put.f k1 t303 (IntKind.u64.wrap ((rd_T47 l0 x14_1).f1))).bind fun t306 => ((code_put.f k1 t306 (IntKind.u64.wrap ((((rd_T47 l0 x14_1).f2).length : Int)))).bind fun t309 => (code_Bytes.l1 k1 t309 l0 (l0.length : Int) x14_1 ((rd_T47 l0 x14_1).f2) (((rd_T47 l0 x14_1).f2).length : Int) 0))) = some r := H
      have A7 := Aside0.mk A70
      clear A70
      replace H := Option.bind_eq_some_iff.mp H
      obtain ⟨t306, A80, H⟩ := H
      replace H : ((code_put.f k1 t306 (IntKind.u64.wrap ((((rd_T47 l0 x14_1).f2).length : Int)))).bind fun t309 => (code_Bytes.l1 k1 t309 l0 (l0.length : Int) x14_1 ((rd_T47 l0 x14_1).f2) (((rd_T47 l0 x14_1).f2).length : Int) 0)) = some r := H
      have A8 := Aside0.mk A80
      clear A80
      replace H := Option.bind_eq_some_iff.mp H
      obtain ⟨t309, A90, H⟩ := H
      replace H : (code_Bytes.l1 k1 t309 l0 (l0.length : Int) x14_1 ((rd_T47 l0 x14_1).f2) (((rd_T47 l0 x14_1).f2).length : Int) 0) = some r := H
      have A9 := Aside0.mk A90
      clear A90
      have H' := Aside0.mk H
      clear H
      have p301 : 0 ≤ (x14_1 : Int) := of_decide_eq_true zS
      have q301 : x14_1 < (l0.length : Int) := of_decide_eq_true zS
      obtain ⟨ad301, A301_0, c301_0, A301_2, c301_2, e301, hx301_0, hx301_1, hx301_2, hl301_0, hi301_0, hl301_2, hi301_2⟩ := at_T47 HR0.out x14_1 p301 q301
      cases e301
      replace hx301_0 := (HB.out.cell (World.block_lt_of_cell? w _ hx301_0)).trans hx301_0
      replace hx301_1 := (HB.out.cell (World.block_lt_of_cell? w _ hx301_1)).trans hx301_1
      replace hx301_2 := (HB.out.cell (World.block_lt_of_cell? w _ hx301_2)).trans hx301_2
      have HR301_0 := Aside0.mk hi301_0
      have HC301_0 := Aside0.mk hl301_0
      clear hi301_0 hl301_0
      have HR301_2 := Aside0.mk hi301_2
      have HC301_2 := Aside0.mk hl301_2
      clear hi301_2 hl301_2
      replace p301 := eq_true p301
      replace q301 := eq_true q301
      try go_wp2_with (first | ((with_reducible refine gate_dst (N := 5) rfl ?_); refine box_event ?hg (N := 5) ?hd (cs := #[.slice none 0 0, .int .i64 0, .slice none 0 0]) (t := 47) ?hr ?_; (case hd => rfl); (case hg => rfl); (case hr => first | (go_simp; done) | (go_simp; rfl)); intro gb302 hg w10 hbox hb; have n0_ := Aside0.mk (Kd.R_below (zR HO_3.out) hb); have n1_ := Aside0.mk (below_step (zB HB.out) hb); have n2_ := Aside0.mk (hbox); have n3_ := Aside0.mk ((by rw [hg]; exact (below_size (zB HB.out)) : w.heap.size ≤ gb302)); have n4_ := Aside0.mk ((by rw [hg]; exact (below_size (zB HB.out)) : w.heap.size ≤ gb302)); clear HO_3; clear HB; have HO_3 := n0_; have HB := n1_; have BK302 := n2_; have GW302 := n3_; have GE302 := n4_; clear n0_ n1_ n2_ n3_ n4_; clear hb hbox hg; have hcz11_0 : w10.cell? ⟨gb302, 0, none⟩ = some (.slice none 0 0) := (blk_cell BK302.out 0).trans rfl; have hcz11_1 : w10.cell? ⟨gb302, 1, none⟩ = some (.int .i64 0) := (blk_cell BK302.out 1).trans rfl; have hcz11_2 : w10.cell? ⟨gb302, 2, none⟩ = some (.slice none 0 0) := (blk_cell BK302.out 2).trans rfl; have hfz11_0 := blk_frozen BK302.out 0; have hfz11_1 := blk_frozen BK302.out 1; have hfz11_2 := blk_frozen BK302.out 2))
      have n0_ : Aside0 (Kd.R (Kd.int .u8) 5 (((w10.setCell ⟨gb302, 0, none⟩ (.slice A301_0 ((rd_T47 l0 x14_1).f0).length c301_0)).setCell ⟨gb302, 1, none⟩ (.int .i64 ((rd_T47 l0 x14_1).f1))).setCell ⟨gb302, 2, none⟩ (.slice A301_2 ((rd_T47 l0 x14_1).f2).length c301_2)) w.heap.size (fun _ => True) u3 x3_1) := ⟨by (with_reducible repeat (first | apply Kd.R_alloc | apply Kd.R_drewN | apply Kd.R_drew)); exact Kd.R_mono (Kd.R_far (p := ⟨gb302, 2, none⟩) (Kd.R_far (p := ⟨gb302, 1, none⟩) (Kd.R_far (p := ⟨gb302, 0, none⟩) (Kd.R_types HO_3.out BK302.out (by decide)) (fun _ hk => hk.2) (.slice A301_0 ((rd_T47 l0 x14_1).f0).length c301_0)) (fun _ hk => hk.2) (.int .i64 ((rd_T47 l0 x14_1).f1))) (fun _ hk => hk.2) (.slice A301_2 ((rd_T47 l0 x14_1).f2).length c301_2)) (fun _ hk => trivial)⟩
      have n1_ : Aside0 ((((w10.setCell ⟨gb302, 0, none⟩ (.slice A301_0 ((rd_T47 l0 x14_1).f0).length c301_0)).setCell ⟨gb302, 1, none⟩ (.int .i64 ((rd_T47 l0 x14_1).f1))).setCell ⟨gb302, 2, none⟩ (.slice A301_2 ((rd_T47 l0 x14_1).f2).length c301_2)).heap[gb302]? = some (.cells #[.slice A301_0 ((rd_T47 l0 x14_1).f0).length c301_0, .int .i64 ((rd_T47 l0 x14_1).f1), .slice A301_2 ((rd_T47 l0 x14_1).f2).length c301_2] 47 (0, 0))) := ⟨by (with_reducible repeat (first | refine blk_drewN ?_ _ | refine blk_drew ?_ | refine blk_alloc ?_ _)); refine blk_put (cs := #[.slice A301_0 ((rd_T47 l0 x14_1).f0).length c301_0, .int .i64 ((rd_T47 l0 x14_1).f1), .slice none 0 0]) ?_ 2 _ rfl; (with_reducible repeat (first | refine blk_drewN ?_ _ | refine blk_drew ?_ | refine blk_alloc ?_ _)); refine blk_put (cs := #[.slice A301_0 ((rd_T47 l0 x14_1).f0).length c301_0, .int .i64 0, .slice none 0 0]) ?_ 1 _ rfl; (with_reducible repeat (first | refine blk_drewN ?_ _ | refine blk_drew ?_ | refine blk_alloc ?_ _)); refine blk_put (cs := #[.slice none 0 0, .int .i64 0, .slice none 0 0]) ?_ 0 _ rfl; (with_reducible repeat (first | refine blk_drewN ?_ _ | refine blk_drew ?_ | refine blk_alloc ?_ _)); exact BK302.out⟩
      have n2_ : Aside0 (Below w.heap.size w (((w10.setCell ⟨gb302, 0, none⟩ (.slice A301_0 ((rd_T47 l0 x14_1).f0).length c301_0)).setCell ⟨gb302, 1, none⟩ (.int .i64 ((rd_T47 l0 x14_1).f1))).setCell ⟨gb302, 2, none⟩ (.slice A301_2 ((rd_T47 l0 x14_1).f2).length c301_2))) := ⟨zC HB.out GE302.out⟩
      (try clear HO_3)
      (try clear BK302)
      (try clear HB)
      generalize (((w10.setCell ⟨gb302, 0, none⟩ (.slice A301_0 ((rd_T47 l0 x14_1).f0).length c301_0)).setCell ⟨gb302, 1, none⟩ (.int .i64 ((rd_T47 l0 x14_1).f1))).setCell ⟨gb302, 2, none⟩ (.slice A301_2 ((rd_T47 l0 x14_1).f2).length c301_2)) = w12 at n0_ n1_ n2_ ⊢
      have HO_3 := n0_
      have BK302 := n1_
      have HB := n2_
      clear n0_ n1_ n2_
      have n0_ := Aside0.mk (Kd.R_drew HO_3.out)
      have n1_ := Aside0.mk (blk_drew BK302.out)
      have n2_ := Aside0.mk (below_drew1 HB.out)
      clear HO_3
      clear BK302
      clear HB
      have HO_3 := n0_
      have BK302 := n1_
      have HB := n2_
      clear n0_ n1_ n2_
      obtain ⟨Ao14, co14, eo14⟩ := Kd.R_slice HO_3.out
      (first | subst eo14 | (injection eo14 with f1_ f2_ f3_; have f4_ := f1_.symm; have f5_ := f3_.symm; clear f1_ f2_ f3_; subst f4_; subst f5_))
      refine start_ (n := 9) (S := fun w' => w'.cell? ⟨gb302, 0, none⟩ = some (.slice A301_0 ((rd_T47 l0 x14_1).f0).length c301_0) ∧ w'.cell? ⟨gb302, 1, none⟩ = some (.int .i64 ((rd_T47 l0 x14_1).f1)) ∧ w'.cell? ⟨gb302, 2, none⟩ = some (.slice A301_2 ((rd_T47 l0 x14_1).f2).length c301_2)) (ds := []) #[false, false, false, false, false, false, false, false, false] (by kernel_rfl) rfl rfl ⟨(blk_cell BK302.out 0).trans rfl, (blk_cell BK302.out 1).trans rfl, (blk_cell BK302.out 2).trans rfl⟩ (fun hHeld => ?_); refine with_tabW code_Bytes.tab5 code_Bytes.bits5 (fun HT_ HW_ => ?_)
      generalize w12.drew = w13 at HO_3 BK302 HB hHeld ⊢
      refine pure_ (i := 0) (N := some 18) (v := ?_) (a' := ?_) #[true, false, false, false, false, false, false, false, false] rfl rfl (any_of HT_.out (by kernel_rfl)) (fun _ _ _ h => h) (Or.inl ⟨by rfl, ?_⟩) ?_ ?_
      rotate_left
      ·intro w'
       go_simp
       with_reducible rfl
      rotate_left
      ·simp only [Act.put, List.setIfInBounds_toArray, List.set_cons_zero, List.set_cons_succ, i64_w, i32_w]
       rfl
      refine pure_ (i := 1) (N := some 19) (v := ?_) (a' := ?_) #[true, true, false, false, false, false, false, false, false] rfl rfl (any_of HT_.out (by kernel_rfl)) (fun _ _ _ h => h) (Or.inl ⟨by rfl, ?_⟩) ?_ ?_
      rotate_left
      ·intro w'
       go_simp
       with_reducible rfl
      rotate_left
      ·simp only [Act.put, List.setIfInBounds_toArray, List.set_cons_zero, List.set_cons_succ, i64_w, i32_w]
       rfl
      refine pure_ (i := 4) (N := some 22) (v := ?_) (a' := ?_) #[true, true, false, false, true, false, false, false, false] rfl rfl (any_of HT_.out (by kernel_rfl)) (fun _ _ _ h => h) (Or.inl ⟨by rfl, ?_⟩) ?_ ?_
      rotate_left
      ·intro w'
       go_simp
       with_reducible rfl
      rotate_left
      ·simp only [Act.put, List.setIfInBounds_toArray, List.set_cons_zero, List.set_cons_succ, i64_w, i32_w]
       rfl
      refine take_ (i := 2) (N := some 20) (v := ?_) (a' := ?_) #[true, true, true, false, true, false, false, false, false] rfl rfl (take_ofW HT_.out HW_.out (by kernel_rfl)) (fun _ _ _ h => h) (Or.inl ⟨by rfl, ?_⟩) hHeld ?_ ?_
      rotate_left
      ·rintro w' ⟨s0, s1, s2⟩
       go_simp
       with_reducible rfl
      rotate_left
      ·simp only [Act.put, List.setIfInBounds_toArray, List.set_cons_zero, List.set_cons_succ, i64_w, i32_w]
       rfl
      refine take_ (i := 5) (N := some 23) (v := ?_) (a' := ?_) #[true, true, true, false, true, true, false, false, false] rfl rfl (take_ofW HT_.out HW_.out (by kernel_rfl)) (fun _ _ _ h => h) (Or.inl ⟨by rfl, ?_⟩) hHeld ?_ ?_
      rotate_left
      ·rintro w' ⟨s0, s1, s2⟩
       go_simp
       with_reducible rfl
      rotate_left
      ·simp only [Act.put, List.setIfInBounds_toArray, List.set_cons_zero, List.set_cons_succ, i64_w, i32_w]
       rfl
      refine pure_ (i := 6) (N := some 24) (v := ?_) (a' := ?_) #[true, true, true, false, true, true, true, false, false] rfl rfl (any_of HT_.out (by kernel_rfl)) (fun _ _ _ h => h) (Or.inl ⟨by rfl, ?_⟩) ?_ ?_
      rotate_left
      ·intro w'
       go_simp
       with_reducible rfl
      rotate_left
      ·simp only [Act.put, List.setIfInBounds_toArray, List.set_cons_zero, List.set_cons_succ, i64_w, i32_w]
       rfl
      refine one_ (i := 3) (N := some 21) #[true, true, true, true, true, true, true, false, false] rfl rfl (one_of HT_.out (by kernel_rfl)) (by decide) (fun K hK => ?_)
      refine goes_ Try.func41 (by kernel_rfl) rfl #[.slice Ao14 x3_1.length co14, .slice A301_0 ((rd_T47 l0 x14_1).f0).length c301_0] (by rfl) rfl rfl zA ?_
      with_reducible refine (code_slotList.calls k1 (fun k_ => some k_ = (.slice Ao14 x3_1.length co14 : Value).ownBlock) (.slice Ao14 x3_1.length co14) x3_1 _ _ ((rd_T47 l0 x14_1).f0) t303 w _ ?side1 ?side2 ?side3 ?side4 A7.out).mono ?_
      (case side1 => repeat (first | (with_reducible first | exact HB.out | apply below_alloc | apply pw_below_drewN | apply below_drew1 | refine below_set ?_ GE302.out) | exact HB.out))
      (case side2 => exact Kd.R_tight rfl HO_3.out)
      (case side3 => exact Kd.C_kept_came (Kd.heap_int .i64) HR301_0.out (zC HB.out GE302.out) (fun k_ hs_ => (fun e_ => Kd.R_base HO_3.out k_ e_.symm) hs_))
      (case side4 => exact HC301_0.out)
      rintro e w15 ⟨v304, rfl, ho0, hb, hkp⟩
      refine ⟨_, rfl, ?_⟩
      have n0_ := Aside0.mk (blk_kept (zK BK302.out) hkp (fun hs_ => (fun e_ => (Kd.R_ne HO_3.out BK302.out (by decide)) e_) hs_))
      have n1_ := Aside0.mk (Kd.R_mono (ok' := fun k_ => True) ho0 (fun k_ hk_ => trivial))
      have n2_ := Aside0.mk (hb)
      clear BK302
      clear HB
      clear HO_3
      have BK302 := n0_
      have HO305 := n1_
      have HB := n2_
      clear n0_ n1_ n2_
      (try clear hb)
      (try clear hkp)
      (try clear ho0)
      obtain ⟨Ao16, co16, eo16⟩ := Kd.R_slice HO305.out
      (first | subst eo16 | (injection eo16 with f1_ f2_ f3_; have f4_ := f1_.symm; have f5_ := f3_.symm; clear f1_ f2_ f3_; subst f4_; subst f5_))
      refine hK.out _ _ ⟨(blk_cell BK302.out 0).trans rfl, (blk_cell BK302.out 1).trans rfl, (blk_cell BK302.out 2).trans rfl⟩ (fun hHeld => ?_)
      clear hK K
      refine norm_ (a' := ?_) ?_ ?_
      rotate_left
      ·show Act.put _ (some 21) _ = _
       simp only [Act.put, List.setIfInBounds_toArray, List.set_cons_zero, List.set_cons_succ, i64_w, i32_w]
       rfl
      refine one_ (i := 7) (N := some 25) #[true, true, true, true, true, true, true, true, false] rfl rfl (one_of HT_.out (by kernel_rfl)) (by decide) (fun K hK => ?_)
      refine goes_ Try.func40 (by kernel_rfl) rfl #[.slice Ao16 t303.length co16, .int .u64 (IntKind.u64.wrap ((rd_T47 l0 x14_1).f1))] (by rfl) rfl rfl zA ?_
      with_reducible refine (code_put.calls k1 (fun k_ => some k_ = (.slice Ao16 t303.length co16 : Value).ownBlock) (.slice Ao16 t303.length co16) t303 (IntKind.u64.wrap ((rd_T47 l0 x14_1).f1)) t306 w _ ?side1 ?side2 A8.out).mono ?_
      (case side1 => repeat (first | (with_reducible first | exact HB.out | apply below_alloc | apply pw_below_drewN | apply below_drew1 | refine below_set ?_ GE302.out) | exact HB.out))
      (case side2 => exact Kd.R_tight rfl HO305.out)
      rintro e w17 ⟨v307, rfl, ho0, hb, hkp⟩
      refine ⟨_, rfl, ?_⟩
      have n0_ := Aside0.mk (blk_kept (zK BK302.out) hkp (fun hs_ => (fun e_ => (Kd.R_ne HO305.out BK302.out (by decide)) e_) hs_))
      have n1_ := Aside0.mk (Kd.R_mono (ok' := fun k_ => True) ho0 (fun k_ hk_ => trivial))
      have n2_ := Aside0.mk (hb)
      clear BK302
      clear HB
      clear HO305
      have BK302 := n0_
      have HO308 := n1_
      have HB := n2_
      clear n0_ n1_ n2_
      (try clear hb)
      (try clear hkp)
      (try clear ho0)
      refine hK.out _ _ ⟨(blk_cell BK302.out 0).trans rfl, (blk_cell BK302.out 1).trans rfl, (blk_cell BK302.out 2).trans rfl⟩ (fun hHeld => ?_)
      clear hK K
      refine norm_ (a' := ?_) ?_ ?_
      rotate_left
      ·show Act.put _ (some 25) _ = _
       simp only [Act.put, List.setIfInBounds_toArray, List.set_cons_zero, List.set_cons_succ, i64_w, i32_w]
       rfl
      refine pure_ (i := 8) (N := some 3) (v := ?_) (a' := ?_) #[true, true, true, true, true, true, true, true, true] rfl rfl (any_of HT_.out (by kernel_rfl)) (fun _ _ _ h => h) (Or.inl ⟨by rfl, ?_⟩) ?_ ?_
      rotate_left
      ·intro w'
       go_simp
       with_reducible rfl
      rotate_left
      ·simp only [Act.put, List.setIfInBounds_toArray, List.set_cons_zero, List.set_cons_succ, i64_w, i32_w]
       rfl
      refine done_ (done_of HT_.out (by kernel_rfl)) ?_
      have hcz18_0 : w17.cell? ⟨gb302, 0, none⟩ = some (.slice A301_0 ((rd_T47 l0 x14_1).f0).length c301_0) := (blk_cell BK302.out 0).trans rfl
      have hcz18_1 : w17.cell? ⟨gb302, 1, none⟩ = some (.int .i64 ((rd_T47 l0 x14_1).f1)) := (blk_cell BK302.out 1).trans rfl
      have hcz18_2 : w17.cell? ⟨gb302, 2, none⟩ = some (.slice A301_2 ((rd_T47 l0 x14_1).f2).length c301_2) := (blk_cell BK302.out 2).trans rfl
      have hfz18_0 := blk_frozen BK302.out 0
      have hfz18_1 := blk_frozen BK302.out 1
      have hfz18_2 := blk_frozen BK302.out 2
      obtain ⟨Ao19, co19, eo19⟩ := Kd.R_slice HO308.out
      subst eo19
      try go_wp2_with (first | ((with_reducible refine gate_callee (f := 40) rfl ?_); refine goesL_ (some 31) rfl rfl Try.func40 (by kernel_rfl) rfl #[.slice Ao19 t306.length co19, .int .u64 (IntKind.u64.wrap ((((rd_T47 l0 x14_1).f2).length : Int)))] rfl zA ?_; (with_reducible refine (code_put.calls k1 (fun k_ => some k_ = (.slice Ao19 t306.length co19 : Value).ownBlock) (.slice Ao19 t306.length co19) t306 (IntKind.u64.wrap ((((rd_T47 l0 x14_1).f2).length : Int))) t309 w _ ?side1 ?side2 A9.out).mono ?_); (case side1 => repeat (first | (with_reducible first | exact HB.out | apply below_alloc | apply pw_below_drewN | apply below_drew1 | refine below_set ?_ GE302.out) | exact HB.out)); (case side2 => exact Kd.R_tight rfl HO308.out); rintro e w20 ⟨v310, rfl, ho0, hb, hkp⟩; refine ⟨_, rfl, ?_⟩; have n0_ := Aside0.mk (blk_kept (zK BK302.out) hkp (fun hs_ => (fun e_ => (Kd.R_ne HO308.out BK302.out (by decide)) e_) hs_)); have n1_ := Aside0.mk (Kd.R_mono (ok' := fun k_ => True) ho0 (fun k_ hk_ => trivial)); have n2_ := Aside0.mk (hb); clear BK302; clear HB; clear HO308; have BK302 := n0_; have HO311 := n1_; have HB := n2_; clear n0_ n1_ n2_; (try clear hb); (try clear hkp); (try clear ho0); have hcz21_0 : w20.cell? ⟨gb302, 0, none⟩ = some (.slice A301_0 ((rd_T47 l0 x14_1).f0).length c301_0) := (blk_cell BK302.out 0).trans rfl; have hcz21_1 : w20.cell? ⟨gb302, 1, none⟩ = some (.int .i64 ((rd_T47 l0 x14_1).f1)) := (blk_cell BK302.out 1).trans rfl; have hcz21_2 : w20.cell? ⟨gb302, 2, none⟩ = some (.slice A301_2 ((rd_T47 l0 x14_1).f2).length c301_2) := (blk_cell BK302.out 2).trans rfl; have hfz21_0 := blk_frozen BK302.out 0; have hfz21_1 := blk_frozen BK302.out 1; have hfz21_2 := blk_frozen BK302.out 2))
      go_loopg [3, 35] k1 (fun kq v3 v35 w' => ∃ (x3_2 : List Int) (x35_2 : Int), v35 = .int .i64 x35_2 ∧ Aside0 (code_Bytes.l1 kq x3_2 l0 (l0.length : Int) x14_1 ((rd_T47 l0 x14_1).f2) (((rd_T47 l0 x14_1).f2).length : Int) x35_2 = some r) ∧ Aside0 (kq ≤ k1) ∧ Aside0 (Kd.R (Kd.int .u8) 5 w' w.heap.size (fun _ => True) v3 x3_2) ∧ Aside0 (w'.heap[gb302]? = some (.cells #[(.slice A301_0 ((rd_T47 l0 x14_1).f0).length c301_0), .int .i64 ((rd_T47 l0 x14_1).f1), (.slice A301_2 ((rd_T47 l0 x14_1).f2).length c301_2)] 47 (0, 0))) ∧ Aside0 (Below w.heap.size w w'))
      case atStart => exact ⟨(t309), (0), (by first | rfl | (simp; done) | (simp [*]; done)), H', ⟨Nat.le_refl _⟩, ⟨zR HO311.out⟩, ⟨zK BK302.out⟩, ⟨zC HB.out GE302.out⟩⟩
      case round =>
       clear H'
       try clear c1
       try clear p2
       try clear c3
       try clear p3
       try clear q3
       try clear hx3
       try clear c4
       try clear c4b0
       try clear c5
       try clear c5b0
       try clear c6
       try clear c6b0
       try clear c16
       try clear hcz11_0
       try clear hcz11_1
       try clear hcz11_2
       try clear hcz18_0
       try clear hcz18_1
       try clear hcz18_2
       try clear hcz21_0
       try clear hcz21_1
       try clear hcz21_2
       try clear hfz11_0
       try clear hfz11_1
       try clear hfz11_2
       try clear hfz18_0
       try clear hfz18_1
       try clear hfz18_2
       try clear hfz21_0
       try clear hfz21_1
       try clear hfz21_2
       try clear hx301_0
       try clear hx301_1
       try clear hx301_2
       try clear p2
       try clear p301
       try clear q301
       obtain ⟨x3_2, x35_2, rfl, HA, HK2, HO_3, BK302, HB⟩ := hrel
       cases gk with
       | zero => exact absurd HA.out (by simp [code_Bytes.l1])
       | succ k2 =>
        have H := HA.out
        clear HA
        simp only [code_Bytes.l1] at H
        by_cases c22 : x35_2 < (((rd_T47 l0 x14_1).f2).length : Int)
        ·rw [if_pos c22] at H
         have c22b0 : decide (x35_2 < (((rd_T47 l0 x14_1).f2).length : Int)) = true := decide_eq_true c22
         clear c22
         by_cases c23 : 0 ≤ x35_2
         ·rw [if_pos c23] at H
          have c23b0 : decide (0 ≤ x35_2) = true := decide_eq_true c23
          clear c23
          by_cases c24 : x35_2 < (((rd_T47 l0 x14_1).f2).length : Int)
          ·rw [if_pos c24] at H
           have c24b0 : decide (x35_2 < (((rd_T47 l0 x14_1).f2).length : Int)) = true := decide_eq_true c24
           clear c24
           replace H := Option.bind_eq_some_iff.mp H
           obtain ⟨t314, A250, H⟩ := H
           replace H : (code_Bytes.l1 k2 t314 l0 (l0.length : Int) x14_1 ((rd_T47 l0 x14_1).f2) (((rd_T47 l0 x14_1).f2).length : Int) (wrap64 (x35_2 + 1))) = some r := H
           have A25 := Aside0.mk A250
           clear A250
           have H' := Aside0.mk H
           clear H
           have p312 : 0 ≤ (x35_2 : Int) := of_decide_eq_true zS
           have q312 : x35_2 < (((rd_T47 l0 x14_1).f2).length : Int) := of_decide_eq_true zS
           obtain ⟨ad312, A312_5, c312_5, e312, hx312_0, hx312_1, hx312_2, hx312_3, hx312_4, hx312_5, hx312_6, hx312_7, hl312_5, hi312_5⟩ := at_T51 HR301_2.out x35_2 p312 q312
           cases e312
           replace hx312_0 := (HB.out.cell (World.block_lt_of_cell? w _ hx312_0)).trans hx312_0
           replace hx312_1 := (HB.out.cell (World.block_lt_of_cell? w _ hx312_1)).trans hx312_1
           replace hx312_2 := (HB.out.cell (World.block_lt_of_cell? w _ hx312_2)).trans hx312_2
           replace hx312_3 := (HB.out.cell (World.block_lt_of_cell? w _ hx312_3)).trans hx312_3
           replace hx312_4 := (HB.out.cell (World.block_lt_of_cell? w _ hx312_4)).trans hx312_4
           replace hx312_5 := (HB.out.cell (World.block_lt_of_cell? w _ hx312_5)).trans hx312_5
           replace hx312_6 := (HB.out.cell (World.block_lt_of_cell? w _ hx312_6)).trans hx312_6
           replace hx312_7 := (HB.out.cell (World.block_lt_of_cell? w _ hx312_7)).trans hx312_7
           have HR312_5 := Aside0.mk hi312_5
           have HC312_5 := Aside0.mk hl312_5
           clear hi312_5 hl312_5
           replace p312 := eq_true p312
           replace q312 := eq_true q312
           go_wp2_with (first | ((with_reducible refine gate_dst (N := 7) rfl ?_); refine box_event ?hg (N := 7) ?hd (cs := #[.int .i64 0, .int .i64 0, .int .i64 0, .int .i64 0, .int .i64 0, .slice none 0 0, .int .i64 0, .int .i64 0]) (t := 51) ?hr ?_; (case hd => rfl); (case hg => rfl); (case hr => first | (go_simp; done) | (go_simp; rfl)); intro gb313 hg w26 hbox hb; have n0_ := Aside0.mk (Kd.R_below (zR HO_3.out) hb); have n1_ := Aside0.mk (blk_below (g := gb302) (o := .cells #[.slice A301_0 ((rd_T47 l0 x14_1).f0).length c301_0, .int .i64 ((rd_T47 l0 x14_1).f1), .slice (some ad312) ((rd_T47 l0 x14_1).f2).length c301_2] 47 (0, 0)) (zK BK302.out) hb); have n2_ := Aside0.mk (below_step (zC HB.out GE302.out) hb); have n3_ := Aside0.mk (hbox); have n4_ := Aside0.mk ((by rw [hg]; exact (below_size (zC HB.out GE302.out)) : w.heap.size ≤ gb313)); have n5_ := Aside0.mk ((by rw [hg]; exact (below_size (zC HB.out GE302.out)) : w.heap.size ≤ gb313)); have n6_ := Aside0.mk ((by rw [hg]; exact Nat.ne_of_lt (blk_lt (g := gb302) (o := .cells #[.slice A301_0 ((rd_T47 l0 x14_1).f0).length c301_0, .int .i64 ((rd_T47 l0 x14_1).f1), .slice (some ad312) ((rd_T47 l0 x14_1).f2).length c301_2] 47 (0, 0)) (zK BK302.out)) : gb302 ≠ gb313)); have n7_ := Aside0.mk ((by rw [hg]; exact Nat.ne_of_gt (blk_lt (g := gb302) (o := .cells #[.slice A301_0 ((rd_T47 l0 x14_1).f0).length c301_0, .int .i64 ((rd_T47 l0 x14_1).f1), .slice (some ad312) ((rd_T47 l0 x14_1).f2).length c301_2] 47 (0, 0)) (zK BK302.out)) : gb313 ≠ gb302)); clear HO_3; clear BK302; clear HB; have HO_3 := n0_; have BK302 := n1_; have HB := n2_; have BK313 := n3_; have GW313 := n4_; have GE313 := n5_; have NB302_313 := n6_; have NB313_302 := n7_; clear n0_ n1_ n2_ n3_ n4_ n5_ n6_ n7_; clear hb hbox hg; have hnb27 := NB313_302.out; have hnc27 := NB302_313.out; have hcz28_0 : w26.cell? ⟨gb313, 0, none⟩ = some (.int .i64 0) := (blk_cell BK313.out 0).trans rfl; have hcz28_1 : w26.cell? ⟨gb313, 1, none⟩ = some (.int .i64 0) := (blk_cell BK313.out 1).trans rfl; have hcz28_2 : w26.cell? ⟨gb313, 2, none⟩ = some (.int .i64 0) := (blk_cell BK313.out 2).trans rfl; have hcz28_3 : w26.cell? ⟨gb313, 3, none⟩ = some (.int .i64 0) := (blk_cell BK313.out 3).trans rfl; have hcz28_4 : w26.cell? ⟨gb313, 4, none⟩ = some (.int .i64 0) := (blk_cell BK313.out 4).trans rfl; have hcz28_5 : w26.cell? ⟨gb313, 5, none⟩ = some (.slice none 0 0) := (blk_cell BK313.out 5).trans rfl; have hcz28_6 : w26.cell? ⟨gb313, 6, none⟩ = some (.int .i64 0) := (blk_cell BK313.out 6).trans rfl; have hcz28_7 : w26.cell? ⟨gb313, 7, none⟩ = some (.int .i64 0) := (blk_cell BK313.out 7).trans rfl; have hfz28_0 := blk_frozen BK313.out 0; have hfz28_1 := blk_frozen BK313.out 1; have hfz28_2 := blk_frozen BK313.out 2; have hfz28_3 := blk_frozen BK313.out 3; have hfz28_4 := blk_frozen BK313.out 4; have hfz28_5 := blk_frozen BK313.out 5; have hfz28_6 := blk_frozen BK313.out 6; have hfz28_7 := blk_frozen BK313.out 7) | ((with_reducible refine gate_store (t := 51) (p := 7) rfl ?_); refine store_event (t := 51) (p := 7) (v := ?vo_w29) (w1 := ((((((((w26.setCell ⟨gb313, 0, none⟩ (.int .i64 ((rd_T51 ((rd_T47 l0 x14_1).f2) x35_2).f0))).setCell ⟨gb313, 1, none⟩ (.int .i64 ((rd_T51 ((rd_T47 l0 x14_1).f2) x35_2).f1))).setCell ⟨gb313, 2, none⟩ (.int .i64 ((rd_T51 ((rd_T47 l0 x14_1).f2) x35_2).f2))).setCell ⟨gb313, 3, none⟩ (.int .i64 ((rd_T51 ((rd_T47 l0 x14_1).f2) x35_2).f3))).setCell ⟨gb313, 4, none⟩ (.int .i64 ((rd_T51 ((rd_T47 l0 x14_1).f2) x35_2).f4))).setCell ⟨gb313, 5, none⟩ (.slice A312_5 ((rd_T51 ((rd_T47 l0 x14_1).f2) x35_2).f5).length c312_5)).setCell ⟨gb313, 6, none⟩ (.int .i64 ((rd_T51 ((rd_T47 l0 x14_1).f2) x35_2).f6.f0))).setCell ⟨gb313, 7, none⟩ (.int .i64 ((rd_T51 ((rd_T47 l0 x14_1).f2) x35_2).f6.f1)))) ?hg ?ho ?hn ?hr ?_; (case ho => rfl); (case hg => rfl); (case hn => rfl); (case hr => first | (go_simp; done) | (go_simp; rfl)); intro w29 hw; have n0_ : Aside0 (Kd.R (Kd.int .u8) 5 w29 w.heap.size (fun _ => True) u3 x3_2) := ⟨(by rw [hw]; exact (by (with_reducible repeat (first | apply Kd.R_alloc | apply Kd.R_drewN | apply Kd.R_drew)); exact Kd.R_mono (Kd.R_far (p := ⟨gb313, 7, none⟩) (Kd.R_far (p := ⟨gb313, 6, none⟩) (Kd.R_far (p := ⟨gb313, 5, none⟩) (Kd.R_far (p := ⟨gb313, 4, none⟩) (Kd.R_far (p := ⟨gb313, 3, none⟩) (Kd.R_far (p := ⟨gb313, 2, none⟩) (Kd.R_far (p := ⟨gb313, 1, none⟩) (Kd.R_far (p := ⟨gb313, 0, none⟩) (Kd.R_types HO_3.out BK313.out (by decide)) (fun _ hk => hk.2) (.int .i64 ((rd_T51 ((rd_T47 l0 x14_1).f2) x35_2).f0))) (fun _ hk => hk.2) (.int .i64 ((rd_T51 ((rd_T47 l0 x14_1).f2) x35_2).f1))) (fun _ hk => hk.2) (.int .i64 ((rd_T51 ((rd_T47 l0 x14_1).f2) x35_2).f2))) (fun _ hk => hk.2) (.int .i64 ((rd_T51 ((rd_T47 l0 x14_1).f2) x35_2).f3))) (fun _ hk => hk.2) (.int .i64 ((rd_T51 ((rd_T47 l0 x14_1).f2) x35_2).f4))) (fun _ hk => hk.2) (.slice A312_5 ((rd_T51 ((rd_T47 l0 x14_1).f2) x35_2).f5).length c312_5)) (fun _ hk => hk.2) (.int .i64 ((rd_T51 ((rd_T47 l0 x14_1).f2) x35_2).f6.f0))) (fun _ hk => hk.2) (.int .i64 ((rd_T51 ((rd_T47 l0 x14_1).f2) x35_2).f6.f1))) (fun _ hk => trivial)))⟩; have n1_ : Aside0 (w29.heap[gb302]? = some (.cells #[.slice A301_0 ((rd_T47 l0 x14_1).f0).length c301_0, .int .i64 ((rd_T47 l0 x14_1).f1), .slice (some ad312) ((rd_T47 l0 x14_1).f2).length c301_2] 47 (0, 0))) := ⟨(by rw [hw]; exact (by (with_reducible repeat (first | refine blk_drewN ?_ _ | refine blk_drew ?_ | refine blk_alloc ?_ _)); refine blk_far ?_ NB302_313.out _; (with_reducible repeat (first | refine blk_drewN ?_ _ | refine blk_drew ?_ | refine blk_alloc ?_ _)); refine blk_far ?_ NB302_313.out _; (with_reducible repeat (first | refine blk_drewN ?_ _ | refine blk_drew ?_ | refine blk_alloc ?_ _)); refine blk_far ?_ NB302_313.out _; (with_reducible repeat (first | refine blk_drewN ?_ _ | refine blk_drew ?_ | refine blk_alloc ?_ _)); refine blk_far ?_ NB302_313.out _; (with_reducible repeat (first | refine blk_drewN ?_ _ | refine blk_drew ?_ | refine blk_alloc ?_ _)); refine blk_far ?_ NB302_313.out _; (with_reducible repeat (first | refine blk_drewN ?_ _ | refine blk_drew ?_ | refine blk_alloc ?_ _)); refine blk_far ?_ NB302_313.out _; (with_reducible repeat (first | refine blk_drewN ?_ _ | refine blk_drew ?_ | refine blk_alloc ?_ _)); refine blk_far ?_ NB302_313.out _; (with_reducible repeat (first | refine blk_drewN ?_ _ | refine blk_drew ?_ | refine blk_alloc ?_ _)); refine blk_far ?_ NB302_313.out _; (with_reducible repeat (first | refine blk_drewN ?_ _ | refine blk_drew ?_ | refine blk_alloc ?_ _)); exact BK302.out))⟩; have n2_ : Aside0 (w29.heap[gb313]? = some (.cells #[.int .i64 ((rd_T51 ((rd_T47 l0 x14_1).f2) x35_2).f0), .int .i64 ((rd_T51 ((rd_T47 l0 x14_1).f2) x35_2).f1), .int .i64 ((rd_T51 ((rd_T47 l0 x14_1).f2) x35_2).f2), .int .i64 ((rd_T51 ((rd_T47 l0 x14_1).f2) x35_2).f3), .int .i64 ((rd_T51 ((rd_T47 l0 x14_1).f2) x35_2).f4), .slice A312_5 ((rd_T51 ((rd_T47 l0 x14_1).f2) x35_2).f5).length c312_5, .int .i64 ((rd_T51 ((rd_T47 l0 x14_1).f2) x35_2).f6.f0), .int .i64 ((rd_T51 ((rd_T47 l0 x14_1).f2) x35_2).f6.f1)] 51 (0, 0))) := ⟨(by rw [hw]; exact (by (with_reducible repeat (first | refine blk_drewN ?_ _ | refine blk_drew ?_ | refine blk_alloc ?_ _)); refine blk_put (cs := #[.int .i64 ((rd_T51 ((rd_T47 l0 x14_1).f2) x35_2).f0), .int .i64 ((rd_T51 ((rd_T47 l0 x14_1).f2) x35_2).f1), .int .i64 ((rd_T51 ((rd_T47 l0 x14_1).f2) x35_2).f2), .int .i64 ((rd_T51 ((rd_T47 l0 x14_1).f2) x35_2).f3), .int .i64 ((rd_T51 ((rd_T47 l0 x14_1).f2) x35_2).f4), .slice A312_5 ((rd_T51 ((rd_T47 l0 x14_1).f2) x35_2).f5).length c312_5, .int .i64 ((rd_T51 ((rd_T47 l0 x14_1).f2) x35_2).f6.f0), .int .i64 0]) ?_ 7 _ rfl; (with_reducible repeat (first | refine blk_drewN ?_ _ | refine blk_drew ?_ | refine blk_alloc ?_ _)); refine blk_put (cs := #[.int .i64 ((rd_T51 ((rd_T47 l0 x14_1).f2) x35_2).f0), .int .i64 ((rd_T51 ((rd_T47 l0 x14_1).f2) x35_2).f1), .int .i64 ((rd_T51 ((rd_T47 l0 x14_1).f2) x35_2).f2), .int .i64 ((rd_T51 ((rd_T47 l0 x14_1).f2) x35_2).f3), .int .i64 ((rd_T51 ((rd_T47 l0 x14_1).f2) x35_2).f4), .slice A312_5 ((rd_T51 ((rd_T47 l0 x14_1).f2) x35_2).f5).length c312_5, .int .i64 0, .int .i64 0]) ?_ 6 _ rfl; (with_reducible repeat (first | refine blk_drewN ?_ _ | refine blk_drew ?_ | refine blk_alloc ?_ _)); refine blk_put (cs := #[.int .i64 ((rd_T51 ((rd_T47 l0 x14_1).f2) x35_2).f0), .int .i64 ((rd_T51 ((rd_T47 l0 x14_1).f2) x35_2).f1), .int .i64 ((rd_T51 ((rd_T47 l0 x14_1).f2) x35_2).f2), .int .i64 ((rd_T51 ((rd_T47 l0 x14_1).f2) x35_2).f3), .int .i64 ((rd_T51 ((rd_T47 l0 x14_1).f2) x35_2).f4), .slice none 0 0, .int .i64 0, .int .i64 0]) ?_ 5 _ rfl; (with_reducible repeat (first | refine blk_drewN ?_ _ | refine blk_drew ?_ | refine blk_alloc ?_ _)); refine blk_put (cs := #[.int .i64 ((rd_T51 ((rd_T47 l0 x14_1).f2) x35_2).f0), .int .i64 ((rd_T51 ((rd_T47 l0 x14_1).f2) x35_2).f1), .int .i64 ((rd_T51 ((rd_T47 l0 x14_1).f2) x35_2).f2), .int .i64 ((rd_T51 ((rd_T47 l0 x14_1).f2) x35_2).f3), .int .i64 0, .slice none 0 0, .int .i64 0, .int .i64 0]) ?_ 4 _ rfl; (with_reducible repeat (first | refine blk_drewN ?_ _ | refine blk_drew ?_ | refine blk_alloc ?_ _)); refine blk_put (cs := #[.int .i64 ((rd_T51 ((rd_T47 l0 x14_1).f2) x35_2).f0), .int .i64 ((rd_T51 ((rd_T47 l0 x14_1).f2) x35_2).f1), .int .i64 ((rd_T51 ((rd_T47 l0 x14_1).f2) x35_2).f2), .int .i64 0, .int .i64 0, .slice none 0 0, .int .i64 0, .int .i64 0]) ?_ 3 _ rfl; (with_reducible repeat (first | refine blk_drewN ?_ _ | refine blk_drew ?_ | refine blk_alloc ?_ _)); refine blk_put (cs := #[.int .i64 ((rd_T51 ((rd_T47 l0 x14_1).f2) x35_2).f0), .int .i64 ((rd_T51 ((rd_T47 l0 x14_1).f2) x35_2).f1), .int .i64 0, .int .i64 0, .int .i64 0, .slice none 0 0, .int .i64 0, .int .i64 0]) ?_ 2 _ rfl; (with_reducible repeat (first | refine blk_drewN ?_ _ | refine blk_drew ?_ | refine blk_alloc ?_ _)); refine blk_put (cs := #[.int .i64 ((rd_T51 ((rd_T47 l0 x14_1).f2) x35_2).f0), .int .i64 0, .int .i64 0, .int .i64 0, .int .i64 0, .slice none 0 0, .int .i64 0, .int .i64 0]) ?_ 1 _ rfl; (with_reducible repeat (first | refine blk_drewN ?_ _ | refine blk_drew ?_ | refine blk_alloc ?_ _)); refine blk_put (cs := #[.int .i64 0, .int .i64 0, .int .i64 0, .int .i64 0, .int .i64 0, .slice none 0 0, .int .i64 0, .int .i64 0]) ?_ 0 _ rfl; (with_reducible repeat (first | refine blk_drewN ?_ _ | refine blk_drew ?_ | refine blk_alloc ?_ _)); exact BK313.out))⟩; have n3_ : Aside0 (Below w.heap.size w w29) := ⟨(by rw [hw]; exact (zD HB.out GE302.out GE313.out))⟩; clear hw; clear HO_3; clear BK302; clear BK313; clear HB; have HO_3 := n0_; have BK302 := n1_; have BK313 := n2_; have HB := n3_; clear n0_ n1_ n2_ n3_; have hcz30_0 : w29.cell? ⟨gb313, 0, none⟩ = some (.int .i64 ((rd_T51 ((rd_T47 l0 x14_1).f2) x35_2).f0)) := (blk_cell BK313.out 0).trans rfl; have hcz30_1 : w29.cell? ⟨gb313, 1, none⟩ = some (.int .i64 ((rd_T51 ((rd_T47 l0 x14_1).f2) x35_2).f1)) := (blk_cell BK313.out 1).trans rfl; have hcz30_2 : w29.cell? ⟨gb313, 2, none⟩ = some (.int .i64 ((rd_T51 ((rd_T47 l0 x14_1).f2) x35_2).f2)) := (blk_cell BK313.out 2).trans rfl; have hcz30_3 : w29.cell? ⟨gb313, 3, none⟩ = some (.int .i64 ((rd_T51 ((rd_T47 l0 x14_1).f2) x35_2).f3)) := (blk_cell BK313.out 3).trans rfl; have hcz30_4 : w29.cell? ⟨gb313, 4, none⟩ = some (.int .i64 ((rd_T51 ((rd_T47 l0 x14_1).f2) x35_2).f4)) := (blk_cell BK313.out 4).trans rfl; have hcz30_5 : w29.cell? ⟨gb313, 5, none⟩ = some (.slice A312_5 ((rd_T51 ((rd_T47 l0 x14_1).f2) x35_2).f5).length c312_5) := (blk_cell BK313.out 5).trans rfl; have hcz30_6 : w29.cell? ⟨gb313, 6, none⟩ = some (.int .i64 ((rd_T51 ((rd_T47 l0 x14_1).f2) x35_2).f6.f0)) := (blk_cell BK313.out 6).trans rfl; have hcz30_7 : w29.cell? ⟨gb313, 7, none⟩ = some (.int .i64 ((rd_T51 ((rd_T47 l0 x14_1).f2) x35_2).f6.f1)) := (blk_cell BK313.out 7).trans rfl; have hfz30_0 := blk_frozen BK313.out 0; have hfz30_1 := blk_frozen BK313.out 1; have hfz30_2 := blk_frozen BK313.out 2; have hfz30_3 := blk_frozen BK313.out 3; have hfz30_4 := blk_frozen BK313.out 4; have hfz30_5 := blk_frozen BK313.out 5; have hfz30_6 := blk_frozen BK313.out 6; have hfz30_7 := blk_frozen BK313.out 7; obtain ⟨Ao31, co31, eo31⟩ := Kd.R_slice HO_3.out; subst eo31) | ((with_reducible refine gate_callee (f := 42) rfl ?_); refine goesL_ (some 41) rfl rfl Try.func42 (by kernel_rfl) rfl #[.slice Ao31 x3_2.length co31, .agg #[.int .i64 ((rd_T51 ((rd_T47 l0 x14_1).f2) x35_2).f0), .int .i64 ((rd_T51 ((rd_T47 l0 x14_1).f2) x35_2).f1), .int .i64 ((rd_T51 ((rd_T47 l0 x14_1).f2) x35_2).f2), .int .i64 ((rd_T51 ((rd_T47 l0 x14_1).f2) x35_2).f3), .int .i64 ((rd_T51 ((rd_T47 l0 x14_1).f2) x35_2).f4), .slice A312_5 ((rd_T51 ((rd_T47 l0 x14_1).f2) x35_2).f5).length c312_5, .int .i64 ((rd_T51 ((rd_T47 l0 x14_1).f2) x35_2).f6.f0), .int .i64 ((rd_T51 ((rd_T47 l0 x14_1).f2) x35_2).f6.f1)]] rfl zA ?_; (with_reducible refine (code_instBytes.calls k2 (fun k_ => some k_ = (.slice Ao31 x3_2.length co31 : Value).ownBlock) (.slice Ao31 x3_2.length co31) x3_2 ((rd_T51 ((rd_T47 l0 x14_1).f2) x35_2).f0) ((rd_T51 ((rd_T47 l0 x14_1).f2) x35_2).f1) ((rd_T51 ((rd_T47 l0 x14_1).f2) x35_2).f2) ((rd_T51 ((rd_T47 l0 x14_1).f2) x35_2).f3) ((rd_T51 ((rd_T47 l0 x14_1).f2) x35_2).f4) _ _ ((rd_T51 ((rd_T47 l0 x14_1).f2) x35_2).f5) ((rd_T51 ((rd_T47 l0 x14_1).f2) x35_2).f6.f0) ((rd_T51 ((rd_T47 l0 x14_1).f2) x35_2).f6.f1) t314 w _ ?side1 ?side2 ?side3 ?side4 A25.out).mono ?_); (case side1 => repeat (first | (with_reducible first | exact HB.out | apply below_alloc | apply pw_below_drewN | apply below_drew1 | refine below_set ?_ GE302.out | refine below_set ?_ GE313.out) | exact HB.out)); (case side2 => exact Kd.R_tight rfl HO_3.out); (case side3 => exact Kd.C_kept_came (Kd.heap_int .i64) HR312_5.out (zD HB.out GE302.out GE313.out) (fun k_ hs_ => (fun e_ => Kd.R_base HO_3.out k_ e_.symm) hs_)); (case side4 => exact HC312_5.out); rintro e w32 ⟨v315, rfl, ho0, hb, hkp⟩; refine ⟨_, rfl, ?_⟩; have n0_ := Aside0.mk (blk_kept (zK BK302.out) hkp (fun hs_ => (fun e_ => (Kd.R_ne HO_3.out BK302.out (by decide)) e_) hs_)); have n1_ := Aside0.mk (blk_kept (zK BK313.out) hkp (fun hs_ => (fun e_ => (Kd.R_ne HO_3.out BK313.out (by decide)) e_) hs_)); have n2_ := Aside0.mk (Kd.R_mono (ok' := fun k_ => True) ho0 (fun k_ hk_ => trivial)); have n3_ := Aside0.mk (hb); clear BK302; clear BK313; clear HB; clear HO_3; have BK302 := n0_; have BK313 := n1_; have HO316 := n2_; have HB := n3_; clear n0_ n1_ n2_ n3_; (try clear hb); (try clear hkp); (try clear ho0)))
           go_roundg k2
           case measure => have := HK1.out; have := HK2.out; omega
           case rel => exact ⟨(t314), (wrap64 (x35_2 + 1)), (by first | rfl | (simp; done) | (simp [*]; done)), H', ⟨by have := HK1.out; have := HK2.out; omega⟩, ⟨zR HO316.out⟩, ⟨zK BK302.out⟩, ⟨zD HB.out GE302.out GE313.out⟩⟩
          ·rw [if_neg c24] at H
           exact absurd H (by simp)
         ·rw [if_neg c23] at H
          exact absurd H (by simp)
        ·rw [if_neg c22] at H
         have c22b0 : decide (x35_2 < (((rd_T47 l0 x14_1).f2).length : Int)) = false := decide_eq_false c22
         clear c22
         have H' := Aside0.mk H
         clear H
         go_wp2
         go_roundg k2
         case measure => have := HK1.out; have := HK2.out; omega
         case rel => exact ⟨(x3_2), (wrap64 (x14_1 + 1)), (by first | rfl | (simp; done) | (simp [*]; done)), H', ⟨by have := HK1.out; have := HK2.out; omega⟩, ⟨zR HO_3.out⟩, ⟨zC HB.out GE302.out⟩⟩
     ·rw [if_neg c6] at H
      exact absurd H (by simp)
    ·rw [if_neg c5] at H
     exact absurd H (by simp)
   ·rw [if_neg c4] at H
    have c4b0 : decide (x14_1 < (l0.length : Int)) = false := decide_eq_false c4
    clear c4
    obtain rfl := Option.some.inj H
    go_wp2
    go_ret
    exact ⟨_, zF, zR HO_3.out, zB HB.out⟩

/-! ### turntableref05_Ints: function 43 -/
def turntableref05_Ints.l0 : Nat → List Int → List Int → Int → Option (Bool)
 | 0, _, _, _ => none
 | k + 1, x0, x1, x5 => if x5 < (x0.length : Int) then (if 0 ≤ x5 then (if x5 < (x1.length : Int) then (if (rd x0 x5) = (rd x1 x5) then (turntableref05_Ints.l0 k x0 x1 (wrap64 (x5 + 1))) else (none)) else (none)) else (none)) else (some true)
def turntableref05_Ints.f (k : Nat) (l0 : List Int) (l1 : List Int) : Option (Bool) := if (l0.length : Int) = (l1.length : Int) then (turntableref05_Ints.l0 k l0 l1 0) else (none)
theorem turntableref05_Ints.mono_l : ∀ k, (∀ y0 y1 y2, LeO (turntableref05_Ints.l0 k y0 y1 y2) (turntableref05_Ints.l0 (k + 1) y0 y1 y2))
 | 0 => fun _ _ _ r h => by simp [turntableref05_Ints.l0] at h
 | k + 1 => by
  have ih0 := turntableref05_Ints.mono_l k
  ·intro y0 y1 y2
   unfold turntableref05_Ints.l0
   repeat' first
   | (with_reducible exact ih0 _ _ _)
   | (with_reducible exact LeO.refl _)
   | (with_reducible exact LeO.none _)
   | (with_reducible refine LeO.ite ?_ ?_)
   | (with_reducible refine LeO.bind ?_ (fun _ => ?_))
   | exact ih0 _ _ _
   | exact LeO.none _
   | refine LeO.ite ?_ ?_
   | refine LeO.bind ?_ (fun _ => ?_)
theorem turntableref05_Ints.mono : ∀ a0 a1 k, LeO (turntableref05_Ints.f k a0 a1) (turntableref05_Ints.f (k + 1) a0 a1) := by
 intro a0 a1 k
 have ih0 := turntableref05_Ints.mono_l k
 unfold turntableref05_Ints.f
 repeat' first
   | (with_reducible exact ih0 _ _ _)
   | (with_reducible exact LeO.refl _)
   | (with_reducible exact LeO.none _)
   | (with_reducible refine LeO.ite ?_ ?_)
   | (with_reducible refine LeO.bind ?_ (fun _ => ?_))
   | exact ih0 _ _ _
   | exact LeO.none _
   | refine LeO.ite ?_ ?_
   | refine LeO.bind ?_ (fun _ => ?_)
set_option maxHeartbeats 8000000 in
set_option maxRecDepth 100000 in
theorem turntableref05_Ints.calls (k : Nat) (A0 : Option Addr) (c0 : Nat) (l0 : List Int) (A1 : Option Addr) (c1 : Nat) (l1 : List Int) (r : Bool) (w : World) (hr0 : Kd.C (Kd.int .i64) w A0 l0.length l0) (hc0 : l0.length ≤ c0) (hr1 : Kd.C (Kd.int .i64) w A1 l1.length l1) (hc1 : l1.length ≤ c1) (h : turntableref05_Ints.f k l0 l1 = some r) :
  Calls Try.prog 43 #[.slice A0 l0.length c0, .slice A1 l1.length c1] w fun e w' => e = .returned (.bool r) ∧ Drawn0 w w' := by
 have HR0 := Aside0.mk hr0
 have HC0 := Aside0.mk hc0
 clear hr0 hc0
 have HR1 := Aside0.mk hr1
 have HC1 := Aside0.mk hc1
 clear hr1 hc1
 have H : (if (l0.length : Int) = (l1.length : Int) then (turntableref05_Ints.l0 k l0 l1 0) else (none)) = some r := h
 clear h
 by_cases c3 : (l0.length : Int) = (l1.length : Int)
 ·rw [if_pos c3] at H
  have c3b0 : ((l0.length : Int) == (l1.length : Int)) = true := beq_iff_eq.mpr c3
  have c3b1 : ((l0.length : Int) != (l1.length : Int)) = false := bne_eq_false_iff_eq.mpr c3
  have c3b2 : (l0.length == l1.length) = true := by first | simpa using c3 | (simp at c3 ⊢; omega)
  clear c3
  have H' := Aside0.mk H
  clear H
  go_enter Try.func43, Try.ntmps43
  go_wp2
  repeat (go_quiet (fail); try go_wp2)
  go_loopg [5] k (fun kq v5 w' => ∃ (x5_1 : Int), v5 = .int .i64 x5_1 ∧ Aside0 (turntableref05_Ints.l0 kq l0 l1 x5_1 = some r) ∧ Aside0 (kq ≤ k) ∧ Drawn0 w w')
  case atStart => exact ⟨(0), (by first | rfl | (simp; done) | (simp [*]; done)), H', ⟨Nat.le_refl _⟩, zQ⟩
  case round =>
   clear H'
   try clear c1
   try clear p2
   try clear c3
   try clear c3b0
   try clear c3b1
   try clear c3b2
   obtain ⟨x5_1, rfl, HA, HK1, ⟨m1, rfl⟩⟩ := hrel
   cases gk with
   | zero => exact absurd HA.out (by simp [turntableref05_Ints.l0])
   | succ k1 =>
    have H := HA.out
    clear HA
    simp only [turntableref05_Ints.l0] at H
    by_cases c4 : x5_1 < (l0.length : Int)
    ·rw [if_pos c4] at H
     have c4b0 : decide (x5_1 < (l0.length : Int)) = true := decide_eq_true c4
     clear c4
     by_cases c5 : 0 ≤ x5_1
     ·rw [if_pos c5] at H
      have c5b0 : decide (0 ≤ x5_1) = true := decide_eq_true c5
      clear c5
      by_cases c6 : x5_1 < (l1.length : Int)
      ·rw [if_pos c6] at H
       have c6b0 : decide (x5_1 < (l1.length : Int)) = true := decide_eq_true c6
       clear c6
       by_cases c7 : (rd l0 x5_1) = (rd l1 x5_1)
       ·rw [if_pos c7] at H
        have c7b0 : ((rd l0 x5_1) == (rd l1 x5_1)) = true := beq_iff_eq.mpr c7
        have c7b1 : ((rd l0 x5_1) != (rd l1 x5_1)) = false := bne_eq_false_iff_eq.mpr c7
        clear c7
        have H' := Aside0.mk H
        clear H
        have p317 : 0 ≤ (x5_1 : Int) := of_decide_eq_true zS
        have q317 : x5_1 < (l0.length : Int) := of_decide_eq_true zS
        obtain ⟨ad317, e317, hx317_0⟩ := Kd.at_int HR0.out x5_1 p317 q317
        cases e317
        replace p317 := eq_true p317
        replace q317 := eq_true q317
        have p318 : 0 ≤ (x5_1 : Int) := of_decide_eq_true zS
        have q318 : x5_1 < (l1.length : Int) := of_decide_eq_true zS
        obtain ⟨ad318, e318, hx318_0⟩ := Kd.at_int HR1.out x5_1 p318 q318
        cases e318
        replace p318 := eq_true p318
        replace q318 := eq_true q318
        go_wp2
        repeat (go_quiet (fail); try go_wp2)
        go_roundg k1
        case measure => have := HK1.out; omega
        case rel => exact ⟨(wrap64 (x5_1 + 1)), (by first | rfl | (simp; done) | (simp [*]; done)), H', ⟨by have := HK1.out; omega⟩, zQ⟩
       ·rw [if_neg c7] at H
        exact absurd H (by simp)
      ·rw [if_neg c6] at H
       exact absurd H (by simp)
     ·rw [if_neg c5] at H
      exact absurd H (by simp)
    ·rw [if_neg c4] at H
     have c4b0 : decide (x5_1 < (l0.length : Int)) = false := decide_eq_false c4
     clear c4
     obtain rfl := Option.some.inj H
     go_wp2
     repeat (go_quiet (fail); try go_wp2)
     go_ret
     exact ⟨by first | rfl | (simp; done) | (simp [*]; done), zQ⟩
 ·rw [if_neg c3] at H
  exact absurd H (by simp)

/-! ### turntableref32_SameInst: function 44 -/
def turntableref32_SameInst.f (k : Nat) (a0_0 : Int) (a0_1 : Int) (a0_2 : Int) (a0_3 : Int) (a0_4 : Int) (l0_5 : List Int) (a0_6 : Int) (a0_7 : Int) (a1_0 : Int) (a1_1 : Int) (a1_2 : Int) (a1_3 : Int) (a1_4 : Int) (l1_5 : List Int) (a1_6 : Int) (a1_7 : Int) : Option (Bool) := if a0_0 = a1_0 then (if a0_1 = a1_1 then (if a0_2 = a1_2 then (if a0_3 = a1_3 then (if a0_4 = a1_4 then (if a0_6 = a1_6 then (if a0_7 = a1_7 then ((turntableref05_Ints.f k l0_5 l1_5).bind fun t321 => (some t321)) else (none)) else (none)) else (none)) else (none)) else (none)) else (none)) else (none)
theorem turntableref32_SameInst.mono : ∀ a0 a1 a2 a3 a4 a5 a6 a7 a8 a9 a10 a11 a12 a13 a14 a15 k, LeO (turntableref32_SameInst.f k a0 a1 a2 a3 a4 a5 a6 a7 a8 a9 a10 a11 a12 a13 a14 a15) (turntableref32_SameInst.f (k + 1) a0 a1 a2 a3 a4 a5 a6 a7 a8 a9 a10 a11 a12 a13 a14 a15) := by
 intro a0 a1 a2 a3 a4 a5 a6 a7 a8 a9 a10 a11 a12 a13 a14 a15 k
 unfold turntableref32_SameInst.f
 repeat' first
   | (with_reducible exact turntableref05_Ints.mono _ _ _)
   | (with_reducible exact LeO.refl _)
   | (with_reducible exact LeO.none _)
   | (with_reducible refine LeO.ite ?_ ?_)
   | (with_reducible refine LeO.bind ?_ (fun _ => ?_))
   | exact turntableref05_Ints.mono _ _ _
   | exact LeO.none _
   | refine LeO.ite ?_ ?_
   | refine LeO.bind ?_ (fun _ => ?_)
set_option maxHeartbeats 8000000 in
set_option maxRecDepth 100000 in
theorem turntableref32_SameInst.calls (k : Nat) (a0_0 : Int) (a0_1 : Int) (a0_2 : Int) (a0_3 : Int) (a0_4 : Int) (A0_5 : Option Addr) (c0_5 : Nat) (l0_5 : List Int) (a0_6 : Int) (a0_7 : Int) (a1_0 : Int) (a1_1 : Int) (a1_2 : Int) (a1_3 : Int) (a1_4 : Int) (A1_5 : Option Addr) (c1_5 : Nat) (l1_5 : List Int) (a1_6 : Int) (a1_7 : Int) (r : Bool) (w : World) (hr0_5 : Kd.C (Kd.int .i64) w A0_5 l0_5.length l0_5) (hc0_5 : l0_5.length ≤ c0_5) (hr1_5 : Kd.C (Kd.int .i64) w A1_5 l1_5.length l1_5) (hc1_5 : l1_5.length ≤ c1_5) (h : turntableref32_SameInst.f k a0_0 a0_1 a0_2 a0_3 a0_4 l0_5 a0_6 a0_7 a1_0 a1_1 a1_2 a1_3 a1_4 l1_5 a1_6 a1_7 = some r) :
  Calls Try.prog 44 #[.agg #[.int .i64 a0_0, .int .i64 a0_1, .int .i64 a0_2, .int .i64 a0_3, .int .i64 a0_4, .slice A0_5 l0_5.length c0_5, .int .i64 a0_6, .int .i64 a0_7], .agg #[.int .i64 a1_0, .int .i64 a1_1, .int .i64 a1_2, .int .i64 a1_3, .int .i64 a1_4, .slice A1_5 l1_5.length c1_5, .int .i64 a1_6, .int .i64 a1_7]] w fun e w' => e = .returned (.bool r) ∧ Below w.heap.size w w' := by
 have hu51 := Try.underlying51
 have hu49 := Try.underlying49
 have heq49 : ∀ (u v x y : Int) (W : World), (Op.equalIn 10000 49 (.agg #[.int .i64 u, .int .i64 v]) (.agg #[.int .i64 x, .int .i64 y])).run Try.prog W = .ok (u == x && (v == y)) W := fun u v x y W => eqA2 (d := 9998) Try.underlying49 Try.underlying3 (fun _ _ _ => by show _ = _; kernel_rfl) (fun _ _ _ => by show _ = _; kernel_rfl) (by kernel_rfl) u v x y W
 have HR0_5 := Aside0.mk hr0_5
 have HC0_5 := Aside0.mk hc0_5
 clear hr0_5 hc0_5
 have HR1_5 := Aside0.mk hr1_5
 have HC1_5 := Aside0.mk hc1_5
 clear hr1_5 hc1_5
 have HB := Aside0.mk (Below.refl w.heap.size w)
 have H : (if a0_0 = a1_0 then (if a0_1 = a1_1 then (if a0_2 = a1_2 then (if a0_3 = a1_3 then (if a0_4 = a1_4 then (if a0_6 = a1_6 then (if a0_7 = a1_7 then ((turntableref05_Ints.f k l0_5 l1_5).bind fun t321 => (some t321)) else (none)) else (none)) else (none)) else (none)) else (none)) else (none)) else (none)) = some r := h
 clear h
 by_cases c3 : a0_0 = a1_0
 ·rw [if_pos c3] at H
  have c3b0 : (a0_0 == a1_0) = true := beq_iff_eq.mpr c3
  have c3b1 : (a0_0 != a1_0) = false := bne_eq_false_iff_eq.mpr c3
  clear c3
  by_cases c4 : a0_1 = a1_1
  ·rw [if_pos c4] at H
   have c4b0 : (a0_1 == a1_1) = true := beq_iff_eq.mpr c4
   have c4b1 : (a0_1 != a1_1) = false := bne_eq_false_iff_eq.mpr c4
   clear c4
   by_cases c5 : a0_2 = a1_2
   ·rw [if_pos c5] at H
    have c5b0 : (a0_2 == a1_2) = true := beq_iff_eq.mpr c5
    have c5b1 : (a0_2 != a1_2) = false := bne_eq_false_iff_eq.mpr c5
    clear c5
    by_cases c6 : a0_3 = a1_3
    ·rw [if_pos c6] at H
     have c6b0 : (a0_3 == a1_3) = true := beq_iff_eq.mpr c6
     have c6b1 : (a0_3 != a1_3) = false := bne_eq_false_iff_eq.mpr c6
     clear c6
     by_cases c7 : a0_4 = a1_4
     ·rw [if_pos c7] at H
      have c7b0 : (a0_4 == a1_4) = true := beq_iff_eq.mpr c7
      have c7b1 : (a0_4 != a1_4) = false := bne_eq_false_iff_eq.mpr c7
      clear c7
      by_cases c8 : a0_6 = a1_6
      ·rw [if_pos c8] at H
       have c8b0 : (a0_6 == a1_6) = true := beq_iff_eq.mpr c8
       have c8b1 : (a0_6 != a1_6) = false := bne_eq_false_iff_eq.mpr c8
       clear c8
       by_cases c9 : a0_7 = a1_7
       ·rw [if_pos c9] at H
        have c9b0 : (a0_7 == a1_7) = true := beq_iff_eq.mpr c9
        have c9b1 : (a0_7 != a1_7) = false := bne_eq_false_iff_eq.mpr c9
        clear c9
        replace H := Option.bind_eq_some_iff.mp H
        obtain ⟨t321, A100, H⟩ := H
        replace H : (some t321) = some r := H
        have A10 := Aside0.mk A100
        clear A100
        obtain rfl := Option.some.inj H
        go_enter Try.func44, Try.ntmps44
        go_wp2_with (first | ((with_reducible refine gate_dst (N := 2) rfl ?_); refine box_event ?hg (N := 2) ?hd (cs := #[.int .i64 a0_0, .int .i64 a0_1, .int .i64 a0_2, .int .i64 a0_3, .int .i64 a0_4, .slice A0_5 l0_5.length c0_5, .int .i64 a0_6, .int .i64 a0_7]) (t := 51) ?hr ?_; (case hd => rfl); (case hg => rfl); (case hr => first | (go_simp; done) | (go_simp; rfl)); intro gb319 hg w11 hbox hb; have n0_ := Aside0.mk (below_step (zB HB.out) hb); have n1_ := Aside0.mk (hbox); have n2_ := Aside0.mk ((by rw [hg]; exact (below_size (zB HB.out)) : w.heap.size ≤ gb319)); have n3_ := Aside0.mk ((by rw [hg]; exact (below_size (zB HB.out)) : w.heap.size ≤ gb319)); clear HB; have HB := n0_; have BK319 := n1_; have GW319 := n2_; have GE319 := n3_; clear n0_ n1_ n2_ n3_; clear hb hbox hg) | ((with_reducible refine gate_dst (N := 3) rfl ?_); refine box_event ?hg (N := 3) ?hd (cs := #[.int .i64 a1_0, .int .i64 a1_1, .int .i64 a1_2, .int .i64 a1_3, .int .i64 a1_4, .slice A1_5 l1_5.length c1_5, .int .i64 a1_6, .int .i64 a1_7]) (t := 51) ?hr ?_; (case hd => rfl); (case hg => rfl); (case hr => first | (go_simp; done) | (go_simp; rfl)); intro gb320 hg w12 hbox hb; have n0_ := Aside0.mk (blk_below (g := gb319) (o := .cells #[.int .i64 a0_0, .int .i64 a0_1, .int .i64 a0_2, .int .i64 a0_3, .int .i64 a0_4, .slice A0_5 l0_5.length c0_5, .int .i64 a0_6, .int .i64 a0_7] 51 (0, 0)) (zK BK319.out) hb); have n1_ := Aside0.mk (below_step (zC HB.out GE319.out) hb); have n2_ := Aside0.mk (hbox); have n3_ := Aside0.mk ((by rw [hg]; exact (below_size (zC HB.out GE319.out)) : w.heap.size ≤ gb320)); have n4_ := Aside0.mk ((by rw [hg]; exact (below_size (zC HB.out GE319.out)) : w.heap.size ≤ gb320)); have n5_ := Aside0.mk ((by rw [hg]; exact Nat.ne_of_lt (blk_lt (g := gb319) (o := .cells #[.int .i64 a0_0, .int .i64 a0_1, .int .i64 a0_2, .int .i64 a0_3, .int .i64 a0_4, .slice A0_5 l0_5.length c0_5, .int .i64 a0_6, .int .i64 a0_7] 51 (0, 0)) (zK BK319.out)) : gb319 ≠ gb320)); have n6_ := Aside0.mk ((by rw [hg]; exact Nat.ne_of_gt (blk_lt (g := gb319) (o := .cells #[.int .i64 a0_0, .int .i64 a0_1, .int .i64 a0_2, .int .i64 a0_3, .int .i64 a0_4, .slice A0_5 l0_5.length c0_5, .int .i64 a0_6, .int .i64 a0_7] 51 (0, 0)) (zK BK319.out)) : gb320 ≠ gb319)); clear BK319; clear HB; have BK319 := n0_; have HB := n1_; have BK320 := n2_; have GW320 := n3_; have GE320 := n4_; have NB319_320 := n5_; have NB320_319 := n6_; clear n0_ n1_ n2_ n3_ n4_ n5_ n6_; clear hb hbox hg; have hnb13 := NB319_320.out; have hnc13 := NB320_319.out; have hcz14_0 : w12.cell? ⟨gb319, 0, none⟩ = some (.int .i64 a0_0) := (blk_cell BK319.out 0).trans rfl; have hcz14_1 : w12.cell? ⟨gb319, 1, none⟩ = some (.int .i64 a0_1) := (blk_cell BK319.out 1).trans rfl; have hcz14_2 : w12.cell? ⟨gb319, 2, none⟩ = some (.int .i64 a0_2) := (blk_cell BK319.out 2).trans rfl; have hcz14_3 : w12.cell? ⟨gb319, 3, none⟩ = some (.int .i64 a0_3) := (blk_cell BK319.out 3).trans rfl; have hcz14_4 : w12.cell? ⟨gb319, 4, none⟩ = some (.int .i64 a0_4) := (blk_cell BK319.out 4).trans rfl; have hcz14_5 : w12.cell? ⟨gb319, 5, none⟩ = some (.slice A0_5 l0_5.length c0_5) := (blk_cell BK319.out 5).trans rfl; have hcz14_6 : w12.cell? ⟨gb319, 6, none⟩ = some (.int .i64 a0_6) := (blk_cell BK319.out 6).trans rfl; have hcz14_7 : w12.cell? ⟨gb319, 7, none⟩ = some (.int .i64 a0_7) := (blk_cell BK319.out 7).trans rfl; have hfz14_0 := blk_frozen BK319.out 0; have hfz14_1 := blk_frozen BK319.out 1; have hfz14_2 := blk_frozen BK319.out 2; have hfz14_3 := blk_frozen BK319.out 3; have hfz14_4 := blk_frozen BK319.out 4; have hfz14_5 := blk_frozen BK319.out 5; have hfz14_6 := blk_frozen BK319.out 6; have hfz14_7 := blk_frozen BK319.out 7; have hcz15_0 : w12.cell? ⟨gb320, 0, none⟩ = some (.int .i64 a1_0) := (blk_cell BK320.out 0).trans rfl; have hcz15_1 : w12.cell? ⟨gb320, 1, none⟩ = some (.int .i64 a1_1) := (blk_cell BK320.out 1).trans rfl; have hcz15_2 : w12.cell? ⟨gb320, 2, none⟩ = some (.int .i64 a1_2) := (blk_cell BK320.out 2).trans rfl; have hcz15_3 : w12.cell? ⟨gb320, 3, none⟩ = some (.int .i64 a1_3) := (blk_cell BK320.out 3).trans rfl; have hcz15_4 : w12.cell? ⟨gb320, 4, none⟩ = some (.int .i64 a1_4) := (blk_cell BK320.out 4).trans rfl; have hcz15_5 : w12.cell? ⟨gb320, 5, none⟩ = some (.slice A1_5 l1_5.length c1_5) := (blk_cell BK320.out 5).trans rfl; have hcz15_6 : w12.cell? ⟨gb320, 6, none⟩ = some (.int .i64 a1_6) := (blk_cell BK320.out 6).trans rfl; have hcz15_7 : w12.cell? ⟨gb320, 7, none⟩ = some (.int .i64 a1_7) := (blk_cell BK320.out 7).trans rfl; have hfz15_0 := blk_frozen BK320.out 0; have hfz15_1 := blk_frozen BK320.out 1; have hfz15_2 := blk_frozen BK320.out 2; have hfz15_3 := blk_frozen BK320.out 3; have hfz15_4 := blk_frozen BK320.out 4; have hfz15_5 := blk_frozen BK320.out 5; have hfz15_6 := blk_frozen BK320.out 6; have hfz15_7 := blk_frozen BK320.out 7) | (go_at_call 43; (with_reducible refine (turntableref05_Ints.calls k _ _ l0_5 _ _ l1_5 t321 _ ?side1 ?side2 ?side3 ?side4 A10.out).mono ?_); (case side1 => repeat (first | exact (Kd.C_below HR0_5.out HB.out) | (with_reducible refine Kd.C_alloc ?_ _) | (with_reducible refine Kd.C_drewN ?_ _) | (with_reducible refine Kd.C_drew ?_))); (case side2 => exact HC0_5.out); (case side3 => repeat (first | exact (Kd.C_below HR1_5.out HB.out) | (with_reducible refine Kd.C_alloc ?_ _) | (with_reducible refine Kd.C_drewN ?_ _) | (with_reducible refine Kd.C_drew ?_))); (case side4 => exact HC1_5.out); rintro e w' ⟨rfl, ⟨nd, rfl⟩⟩))
        go_ret
        exact ⟨zF, zD HB.out GE319.out GE320.out⟩
       ·rw [if_neg c9] at H
        exact absurd H (by simp)
      ·rw [if_neg c8] at H
       exact absurd H (by simp)
     ·rw [if_neg c7] at H
      exact absurd H (by simp)
    ·rw [if_neg c6] at H
     exact absurd H (by simp)
   ·rw [if_neg c5] at H
    exact absurd H (by simp)
  ·rw [if_neg c4] at H
   exact absurd H (by simp)
 ·rw [if_neg c3] at H
  exact absurd H (by simp)

end Go.Proofs.Ytpjehipemljkpaa.PCo
