-- PRINTED by a turned copy of the kit's print (patch_print.py); not typed by hand. Lean checks it.
import Derived.Test.YtpjehipemljkpaaPCox0
import Derived.Test.YtpjehipemljkpaaHPieces
import Derived.Test.YtpjehipemljkpaaZip
namespace Go.Proofs.Ytpjehipemljkpaa.PCo
open Go.RowKit Go.Proofs.YtpjehipemljkpaaW.PrintWords Go.Proofs.YtpjehipemljkpaaW.PrintLast Go.Proofs.YtpjehipemljkpaaW.PrintMore Go.Proofs.Ytpjehipemljkpaa.Zip
attribute [local go_sem] max2_int min2_int max_two min_two max_three min_three max_four min_four   -- for this text's walks alone
set_option linter.unusedVariables false
set_option linter.unusedSimpArgs false

/-! ### code_put: function 40 -/
def code_put.l0 : Nat → List Int → Int → Option (List Int)
 | 0, _, _ => none
 | k + 1, x0, x1 => if x1 ≥ 128 then (if x0.length < 140737488355328 then (code_put.l0 k (x0 ++ [Go.bits .or .u8 ((x1) % 256) 128]) (x1 / 128)) else (none)) else (if x0.length < 140737488355328 then (some (x0 ++ [(x1) % 256])) else (none))
def code_put.f (k : Nat) (l0 : List Int) (a1 : Int) : Option (List Int) := code_put.l0 k l0 a1
theorem code_put.mono_l : ∀ k, (∀ y0 y1, LeO (code_put.l0 k y0 y1) (code_put.l0 (k + 1) y0 y1))
 | 0 => fun _ _ r h => by simp [code_put.l0] at h
 | k + 1 => by
  have ih0 := code_put.mono_l k
  ·intro y0 y1
   unfold code_put.l0
   repeat' first
   | (with_reducible exact ih0 _ _)
   | (with_reducible exact LeO.refl _)
   | (with_reducible exact LeO.none _)
   | (with_reducible refine LeO.ite ?_ ?_)
   | (with_reducible refine LeO.bind ?_ (fun _ => ?_))
   | exact ih0 _ _
   | exact LeO.none _
   | refine LeO.ite ?_ ?_
   | refine LeO.bind ?_ (fun _ => ?_)
theorem code_put.mono : ∀ a0 a1 k, LeO (code_put.f k a0 a1) (code_put.f (k + 1) a0 a1) := by
 intro a0 a1 k
 have ih0 := code_put.mono_l k
 unfold code_put.f
 repeat' first
   | (with_reducible exact ih0 _ _)
   | (with_reducible exact LeO.refl _)
   | (with_reducible exact LeO.none _)
   | (with_reducible refine LeO.ite ?_ ?_)
   | (with_reducible refine LeO.bind ?_ (fun _ => ?_))
   | exact ih0 _ _
   | exact LeO.none _
   | refine LeO.ite ?_ ?_
   | refine LeO.bind ?_ (fun _ => ?_)
set_option maxHeartbeats 8000000 in
set_option maxRecDepth 100000 in
theorem code_put.calls (k : Nat) (P0_ : Nat → Prop) (u9000_ : Value) (l0 : List Int) (a1 : Int) (r : List Int) (w0 w : World) (hB : Below w0.heap.size w0 w) (ho0 : Kd.R (Kd.int .u8) 5 w w0.heap.size P0_ u9000_ l0) (h : code_put.f k l0 a1 = some r) :
  Calls Try.prog 40 #[u9000_, .int .u64 a1] w fun e w' => ∃ v0_ : Value, e = .returned (v0_) ∧ Kd.R (Kd.int .u8) 5 w' w0.heap.size (fun k_ => (P0_ k_ ∨ w.heap.size ≤ k_)) v0_ r ∧ Below w0.heap.size w0 w' ∧ Kept w w' (fun k_ => P0_ k_) := by
 have HO0 := Aside0.mk (show Kd.R (Kd.int .u8) 5 w w0.heap.size (fun k_ => (P0_ k_ ∨ w.heap.size ≤ k_)) u9000_ l0 from Kd.R_mono ho0 (fun k_ hk => (.inl hk)))
 have HK := Aside0.mk (Kept.refl w (fun k_ => P0_ k_))
 have HW0 := Aside0.mk hB.size
 have HB := Aside0.mk hB
 clear hB
 have H : (code_put.l0 k l0 a1) = some r := h
 clear h
 have H' := Aside0.mk H
 clear H
 go_enter Try.func40, Try.ntmps40
 go_wp2
 go_loopg [0, 1] k (fun kq v0 v1 w' => ∃ (x0_1 : List Int) (x1_1 : Int), v1 = .int .u64 x1_1 ∧ Aside0 (code_put.l0 kq x0_1 x1_1 = some r) ∧ Aside0 (kq ≤ k) ∧ Aside0 (Kd.R (Kd.int .u8) 5 w' w0.heap.size (fun k_ => (P0_ k_ ∨ w.heap.size ≤ k_)) v0 x0_1) ∧ Aside0 (Kept w w' (fun k_ => P0_ k_)) ∧ Aside0 (Below w0.heap.size w0 w'))
 case atStart => exact ⟨(l0), (a1), (by first | rfl | (simp; done) | (simp [*]; done)), H', ⟨Nat.le_refl _⟩, ⟨zR HO0.out⟩, ⟨zH HK.out⟩, ⟨zB HB.out⟩⟩
 case round =>
  clear H'
  try clear p2
  obtain ⟨x0_1, x1_1, rfl, HA, HK1, HO_0, HK, HB⟩ := hrel
  cases gk with
  | zero => exact absurd HA.out (by simp [code_put.l0])
  | succ k1 =>
   have H := HA.out
   clear HA
   simp only [code_put.l0] at H
   by_cases c3 : x1_1 ≥ 128
   ·rw [if_pos c3] at H
    have c3b0 : decide (128 ≤ x1_1) = true := decide_eq_true c3
    clear c3
    by_cases c4 : x0_1.length < 140737488355328
    ·rw [if_pos c4] at H
     have LMc4 := Aside0.mk c4
     clear c4
     obtain ⟨y250, hy250⟩ : ∃ y_ : List Int, y_ = (x0_1 ++ [Go.bits .or .u8 ((x1_1) % 256) 128]) := ⟨_, rfl⟩
     replace H : (code_put.l0 k1 y250 (x1_1 / 128)) = some r := by first | (rw [hy250]; with_reducible exact H) | (have H2_ := (Option.bind_some _ _).symm.trans H; rw [hy250]; with_reducible exact H2_) | (have H2_ := (Option.bind_some _ _).symm.trans H; with_reducible exact H2_) | with_reducible exact H | (rw [hy250]; exact H) | exact H
     have Ny250 := Aside0.mk hy250
     clear hy250
     have H' := Aside0.mk H
     clear H
     go_wp2_with (first | ((with_reducible refine gate_builtin (b := .append) (xs := #[.tmp 7, .tmp 11]) rfl ?_); at_builtin; refine Kd.R_append (Kd.int .u8) (w0 := w0) w0.heap.size rfl (.tmp 7) (.tmp 11) 29 5 (.int .u8 0) 1 rfl Try.underlying29 info5 rfl (by decide) (by omega) u0 x0_1 (Go.bits .or .u8 ((x1_1) % 256) 128) [.int .u8 (Go.bits .or .u8 ((x1_1) % 256) 128)] (fun k_ => (P0_ k_ ∨ w.heap.size ≤ k_)) (fun _ => False) rfl rfl ?aP (fun _ hk => hk.elim) ?aF ?aO ?aB ?aS ?aL ?_; (case aP => exact rfl); (case aB => exact (zB HB.out)); (case aF => exact (fun k_ hk => (.inr (Nat.le_trans (by first | exact HK.out.1 | exact (show Kept w _ (fun k_ => P0_ k_) from zH HK.out).1) hk)))); (case aO => exact (zR HO_0.out)); (case aS => exact (below_size (zB HB.out))); (case aL => have := LMc4.out; omega); intro v251 w5 ho hb hg hat; rw [← Ny250.out] at ho; have n0_ := Aside0.mk (hb); have n1_ := Aside0.mk (Kept.of_grown (S := (fun k_ => P0_ k_)) hg (zH HK.out) (fun k_ e_ => (HO_0.out.1 k_ e_))); have n2_ := Aside0.mk (ho); clear HB; clear HK; clear HO_0; have HB := n0_; have HK := n1_; have HO252 := n2_; clear n0_ n1_ n2_; clear ho hb hg hat))
     go_roundg k1
     case measure => have := HK1.out; omega
     case rel => exact ⟨(y250), (x1_1 / 128), (by first | rfl | (simp; done) | (simp [*]; done)), H', ⟨by have := HK1.out; omega⟩, ⟨zR HO252.out⟩, ⟨zH HK.out⟩, ⟨zB HB.out⟩⟩
    ·rw [if_neg c4] at H
     exact absurd H (by simp)
   ·rw [if_neg c3] at H
    have c3b0 : decide (128 ≤ x1_1) = false := decide_eq_false c3
    clear c3
    by_cases c6 : x0_1.length < 140737488355328
    ·rw [if_pos c6] at H
     have LMc6 := Aside0.mk c6
     clear c6
     obtain ⟨y253, hy253⟩ : ∃ y_ : List Int, y_ = (x0_1 ++ [(x1_1) % 256]) := ⟨_, rfl⟩
     replace H : (some y253) = some r := by first | (rw [hy253]; with_reducible exact H) | (have H2_ := (Option.bind_some _ _).symm.trans H; rw [hy253]; with_reducible exact H2_) | (have H2_ := (Option.bind_some _ _).symm.trans H; with_reducible exact H2_) | with_reducible exact H | (rw [hy253]; exact H) | exact H
     have Ny253 := Aside0.mk hy253
     clear hy253
     obtain rfl := Option.some.inj H
     go_wp2_with (first | ((with_reducible refine gate_builtin (b := .append) (xs := #[.tmp 15, .tmp 18]) rfl ?_); at_builtin; refine Kd.R_append (Kd.int .u8) (w0 := w0) w0.heap.size rfl (.tmp 15) (.tmp 18) 29 5 (.int .u8 0) 1 rfl Try.underlying29 info5 rfl (by decide) (by omega) u0 x0_1 ((x1_1) % 256) [.int .u8 ((x1_1) % 256)] (fun k_ => (P0_ k_ ∨ w.heap.size ≤ k_)) (fun _ => False) rfl rfl ?aP (fun _ hk => hk.elim) ?aF ?aO ?aB ?aS ?aL ?_; (case aP => exact rfl); (case aB => exact (zB HB.out)); (case aF => exact (fun k_ hk => (.inr (Nat.le_trans (by first | exact HK.out.1 | exact (show Kept w _ (fun k_ => P0_ k_) from zH HK.out).1) hk)))); (case aO => exact (zR HO_0.out)); (case aS => exact (below_size (zB HB.out))); (case aL => have := LMc6.out; omega); intro v254 w7 ho hb hg hat; rw [← Ny253.out] at ho; have n0_ := Aside0.mk (hb); have n1_ := Aside0.mk (Kept.of_grown (S := (fun k_ => P0_ k_)) hg (zH HK.out) (fun k_ e_ => (HO_0.out.1 k_ e_))); have n2_ := Aside0.mk (ho); clear HB; clear HK; clear HO_0; have HB := n0_; have HK := n1_; have HO255 := n2_; clear n0_ n1_ n2_; clear ho hb hg hat))
     go_ret
     exact ⟨_, zF, zR HO255.out, zB HB.out, zH HK.out⟩
    ·rw [if_neg c6] at H
     exact absurd H (by simp)

/-! ### code_slotList: function 41 -/
def code_slotList.l0 : Nat → List Int → List Int → Int → Int → Option (List Int)
 | 0, _, _, _, _ => none
 | k + 1, x0, x12, x13, x14 => if x14 < x13 then (if 0 ≤ x14 then (if x14 < (x12.length : Int) then ((code_put.f k x0 (IntKind.u64.wrap (rd x12 x14))).bind fun t260 => (code_slotList.l0 k t260 x12 x13 (wrap64 (x14 + 1)))) else (none)) else (none)) else (some x0)
def code_slotList.f (k : Nat) (l0 : List Int) (l1 : List Int) : Option (List Int) := (code_put.f k l0 (IntKind.u64.wrap ((l1.length : Int)))).bind fun t256 => (code_slotList.l0 k t256 l1 (l1.length : Int) 0)
theorem code_slotList.mono_l : ∀ k, (∀ y0 y1 y2 y3, LeO (code_slotList.l0 k y0 y1 y2 y3) (code_slotList.l0 (k + 1) y0 y1 y2 y3))
 | 0 => fun _ _ _ _ r h => by simp [code_slotList.l0] at h
 | k + 1 => by
  have ih0 := code_slotList.mono_l k
  ·intro y0 y1 y2 y3
   unfold code_slotList.l0
   repeat' first
   | (with_reducible exact ih0 _ _ _ _)
   | (with_reducible exact code_put.mono _ _ _)
   | (with_reducible exact LeO.refl _)
   | (with_reducible exact LeO.none _)
   | (with_reducible refine LeO.ite ?_ ?_)
   | (with_reducible refine LeO.bind ?_ (fun _ => ?_))
   | exact ih0 _ _ _ _
   | exact code_put.mono _ _ _
   | exact LeO.none _
   | refine LeO.ite ?_ ?_
   | refine LeO.bind ?_ (fun _ => ?_)
theorem code_slotList.mono : ∀ a0 a1 k, LeO (code_slotList.f k a0 a1) (code_slotList.f (k + 1) a0 a1) := by
 intro a0 a1 k
 have ih0 := code_slotList.mono_l k
 unfold code_slotList.f
 repeat' first
   | (with_reducible exact ih0 _ _ _ _)
   | (with_reducible exact code_put.mono _ _ _)
   | (with_reducible exact LeO.refl _)
   | (with_reducible exact LeO.none _)
   | (with_reducible refine LeO.ite ?_ ?_)
   | (with_reducible refine LeO.bind ?_ (fun _ => ?_))
   | exact ih0 _ _ _ _
   | exact code_put.mono _ _ _
   | exact LeO.none _
   | refine LeO.ite ?_ ?_
   | refine LeO.bind ?_ (fun _ => ?_)
set_option maxHeartbeats 8000000 in
set_option maxRecDepth 100000 in
theorem code_slotList.calls (k : Nat) (P0_ : Nat → Prop) (u9000_ : Value) (l0 : List Int) (A1 : Option Addr) (c1 : Nat) (l1 : List Int) (r : List Int) (w0 w : World) (hB : Below w0.heap.size w0 w) (ho0 : Kd.R (Kd.int .u8) 5 w w0.heap.size P0_ u9000_ l0) (hr1 : ∀ W_, Kept w W_ (fun k_ => P0_ k_) → Kd.C (Kd.int .i64) W_ A1 l1.length l1) (hc1 : l1.length ≤ c1) (h : code_slotList.f k l0 l1 = some r) :
  Calls Try.prog 41 #[u9000_, .slice A1 l1.length c1] w fun e w' => ∃ v0_ : Value, e = .returned (v0_) ∧ Kd.R (Kd.int .u8) 5 w' w0.heap.size (fun k_ => (P0_ k_ ∨ w.heap.size ≤ k_)) v0_ r ∧ Below w0.heap.size w0 w' ∧ Kept w w' (fun k_ => P0_ k_) := by
 have HO0 := Aside0.mk (show Kd.R (Kd.int .u8) 5 w w0.heap.size (fun k_ => (P0_ k_ ∨ w.heap.size ≤ k_)) u9000_ l0 from Kd.R_mono ho0 (fun k_ hk => (.inl hk)))
 have HR1 := Aside0.mk hr1
 have HC1 := Aside0.mk hc1
 clear hr1 hc1
 have HK := Aside0.mk (Kept.refl w (fun k_ => P0_ k_))
 have HW0 := Aside0.mk hB.size
 have HB := Aside0.mk hB
 clear hB
 have H : ((code_put.f k l0 (IntKind.u64.wrap ((l1.length : Int)))).bind fun t256 => (code_slotList.l0 k t256 l1 (l1.length : Int) 0)) = some r := h
 clear h
 replace H := Option.bind_eq_some_iff.mp H
 obtain ⟨t256, A30, H⟩ := H
 replace H : (code_slotList.l0 k t256 l1 (l1.length : Int) 0) = some r := H
 have A3 := Aside0.mk A30
 clear A30
 have H' := Aside0.mk H
 clear H
 obtain ⟨Ao4, co4, eo4⟩ := Kd.R_slice HO0.out
 subst eo4
 go_enter Try.func41, Try.ntmps41
 go_wp2_with (first | ((with_reducible refine gate_callee (f := 40) rfl ?_); refine goesL_ (some 11) rfl rfl Try.func40 (by kernel_rfl) rfl #[.slice Ao4 l0.length co4, .int .u64 (IntKind.u64.wrap ((l1.length : Int)))] rfl zA ?_; (with_reducible refine (code_put.calls k (fun k_ => some k_ = (.slice Ao4 l0.length co4 : Value).ownBlock) (.slice Ao4 l0.length co4) l0 (IntKind.u64.wrap ((l1.length : Int))) t256 w0 _ ?side1 ?side2 A3.out).mono ?_); (case side1 => repeat (first | (with_reducible first | exact HB.out | apply below_alloc | apply pw_below_drewN | apply below_drew1) | exact HB.out)); (case side2 => exact Kd.R_tight rfl HO0.out); rintro e w5 ⟨v257, rfl, ho0, hb, hkp⟩; refine ⟨_, rfl, ?_⟩; have n0_ := Aside0.mk (Kd.R_mono (ok' := fun k_ => (P0_ k_ ∨ w.heap.size ≤ k_)) ho0 (fun k_ hk_ => Or.elim hk_ (fun hs_ => (HO0.out.1 k_ (hs_).symm)) (fun hn_ => (.inr (Nat.le_trans (by first | exact HK.out.1 | exact (show Kept w _ (fun k_ => P0_ k_) from zH HK.out).1) hn_))))); have n1_ := Aside0.mk (Kept.then_ (S := (fun k_ => P0_ k_)) (zH HK.out) hkp (fun k_ hs_ => (fun e_ => (HO0.out.1 k_ e_.symm)) hs_)); have n2_ := Aside0.mk (hb); clear HK; clear HB; clear HO0; have HO258 := n0_; have HK := n1_; have HB := n2_; clear n0_ n1_ n2_; (try clear hb); (try clear hkp); (try clear ho0)))
 go_loopg [0, 14] k (fun kq v0 v14 w' => ∃ (x0_1 : List Int) (x14_1 : Int), v14 = .int .i64 x14_1 ∧ Aside0 (code_slotList.l0 kq x0_1 l1 (l1.length : Int) x14_1 = some r) ∧ Aside0 (kq ≤ k) ∧ Aside0 (Kd.R (Kd.int .u8) 5 w' w0.heap.size (fun k_ => (P0_ k_ ∨ w.heap.size ≤ k_)) v0 x0_1) ∧ Aside0 (Kept w w' (fun k_ => P0_ k_)) ∧ Aside0 (Below w0.heap.size w0 w'))
 case atStart => exact ⟨(t256), (0), (by first | rfl | (simp; done) | (simp [*]; done)), H', ⟨Nat.le_refl _⟩, ⟨zR HO258.out⟩, ⟨zH HK.out⟩, ⟨zB HB.out⟩⟩
 case round =>
  clear H'
  try clear c1
  try clear p2
  try clear c4
  obtain ⟨x0_1, x14_1, rfl, HA, HK1, HO_0, HK, HB⟩ := hrel
  cases gk with
  | zero => exact absurd HA.out (by simp [code_slotList.l0])
  | succ k1 =>
   have H := HA.out
   clear HA
   simp only [code_slotList.l0] at H
   by_cases c6 : x14_1 < (l1.length : Int)
   ·rw [if_pos c6] at H
    have c6b0 : decide (x14_1 < (l1.length : Int)) = true := decide_eq_true c6
    clear c6
    by_cases c7 : 0 ≤ x14_1
    ·rw [if_pos c7] at H
     have c7b0 : decide (0 ≤ x14_1) = true := decide_eq_true c7
     clear c7
     by_cases c8 : x14_1 < (l1.length : Int)
     ·rw [if_pos c8] at H
      have c8b0 : decide (x14_1 < (l1.length : Int)) = true := decide_eq_true c8
      clear c8
      replace H := Option.bind_eq_some_iff.mp H
      obtain ⟨t260, A90, H⟩ := H
      replace H : (code_slotList.l0 k1 t260 l1 (l1.length : Int) (wrap64 (x14_1 + 1))) = some r := H
      have A9 := Aside0.mk A90
      clear A90
      have H' := Aside0.mk H
      clear H
      have p259 : 0 ≤ (x14_1 : Int) := of_decide_eq_true zS
      have q259 : x14_1 < (l1.length : Int) := of_decide_eq_true zS
      obtain ⟨ad259, e259, hx259_0⟩ := Kd.at_int (Kd.C_kept_now HR1.out HK.out) x14_1 p259 q259
      cases e259
      replace p259 := eq_true p259
      replace q259 := eq_true q259
      obtain ⟨Ao10, co10, eo10⟩ := Kd.R_slice HO_0.out
      subst eo10
      go_wp2_with (first | ((with_reducible refine gate_callee (f := 40) rfl ?_); refine goesL_ (some 21) rfl rfl Try.func40 (by kernel_rfl) rfl #[.slice Ao10 x0_1.length co10, .int .u64 (IntKind.u64.wrap (rd l1 x14_1))] rfl zA ?_; (with_reducible refine (code_put.calls k1 (fun k_ => some k_ = (.slice Ao10 x0_1.length co10 : Value).ownBlock) (.slice Ao10 x0_1.length co10) x0_1 (IntKind.u64.wrap (rd l1 x14_1)) t260 w0 _ ?side1 ?side2 A9.out).mono ?_); (case side1 => repeat (first | (with_reducible first | exact HB.out | apply below_alloc | apply pw_below_drewN | apply below_drew1) | exact HB.out)); (case side2 => exact Kd.R_tight rfl HO_0.out); rintro e w11 ⟨v261, rfl, ho0, hb, hkp⟩; refine ⟨_, rfl, ?_⟩; have n0_ := Aside0.mk (Kd.R_mono (ok' := fun k_ => (P0_ k_ ∨ w.heap.size ≤ k_)) ho0 (fun k_ hk_ => Or.elim hk_ (fun hs_ => (HO_0.out.1 k_ (hs_).symm)) (fun hn_ => (.inr (Nat.le_trans (by first | exact HK.out.1 | exact (show Kept w _ (fun k_ => P0_ k_) from zH HK.out).1) hn_))))); have n1_ := Aside0.mk (Kept.then_ (S := (fun k_ => P0_ k_)) (zH HK.out) hkp (fun k_ hs_ => (fun e_ => (HO_0.out.1 k_ e_.symm)) hs_)); have n2_ := Aside0.mk (hb); clear HK; clear HB; clear HO_0; have HO262 := n0_; have HK := n1_; have HB := n2_; clear n0_ n1_ n2_; (try clear hb); (try clear hkp); (try clear ho0)))
      go_roundg k1
      case measure => have := HK1.out; omega
      case rel => exact ⟨(t260), (wrap64 (x14_1 + 1)), (by first | rfl | (simp; done) | (simp [*]; done)), H', ⟨by have := HK1.out; omega⟩, ⟨zR HO262.out⟩, ⟨zH HK.out⟩, ⟨zB HB.out⟩⟩
     ·rw [if_neg c8] at H
      exact absurd H (by simp)
    ·rw [if_neg c7] at H
     exact absurd H (by simp)
   ·rw [if_neg c6] at H
    have c6b0 : decide (x14_1 < (l1.length : Int)) = false := decide_eq_false c6
    clear c6
    obtain rfl := Option.some.inj H
    go_wp2
    go_ret
    exact ⟨_, zF, zR HO_0.out, zB HB.out, zH HK.out⟩

/-! ### code_instBytes: function 42 -/
def code_instBytes.l0 : Nat → List Int → List Int → Int → Int → Int → Int → Int → Int → Int → List Int → Int → Int → Option (List Int)
 | 0, _, _, _, _, _, _, _, _, _, _, _, _ => none
 | k + 1, x0, x15, x16, x17, x264000, x264001, x264002, x264003, x264004, x264005, x264006, x264007 => if x17 < x16 then (if 0 ≤ x17 then (if x17 < (x15.length : Int) then (if (rd x15 x17) = 0 then ((code_put.f k x0 (IntKind.u64.wrap (wrap64 (x264001 + 1)))).bind fun t271 => (code_instBytes.l0 k t271 x15 x16 (wrap64 (x17 + 1)) x264000 x264001 x264002 x264003 x264004 x264005 x264006 x264007)) else (if (rd x15 x17) = 1 then ((code_put.f k x0 (IntKind.u64.wrap (wrap64 (x264002 + 1)))).bind fun t274 => (code_instBytes.l0 k t274 x15 x16 (wrap64 (x17 + 1)) x264000 x264001 x264002 x264003 x264004 x264005 x264006 x264007)) else (if (rd x15 x17) = 2 then ((code_put.f k x0 (IntKind.u64.wrap (wrap64 (x264003 + 1)))).bind fun t277 => (code_instBytes.l0 k t277 x15 x16 (wrap64 (x17 + 1)) x264000 x264001 x264002 x264003 x264004 x264005 x264006 x264007)) else (if (rd x15 x17) = 3 then ((code_put.f k x0 (IntKind.u64.wrap (x264004))).bind fun t280 => (code_instBytes.l0 k t280 x15 x16 (wrap64 (x17 + 1)) x264000 x264001 x264002 x264003 x264004 x264005 x264006 x264007)) else (if (rd x15 x17) = 4 then ((code_put.f k x0 (Go.bits .xor .u64 (IntKind.u64.wrap ((IntKind.u64.wrap (x264004)) * 2)) (IntKind.u64.wrap (x264004 / 9223372036854775808)))).bind fun t283 => (code_instBytes.l0 k t283 x15 x16 (wrap64 (x17 + 1)) x264000 x264001 x264002 x264003 x264004 x264005 x264006 x264007)) else (if (rd x15 x17) = 5 then ((code_slotList.f k x0 x264005).bind fun t286 => (code_instBytes.l0 k t286 x15 x16 (wrap64 (x17 + 1)) x264000 x264001 x264002 x264003 x264004 x264005 x264006 x264007)) else (if (rd x15 x17) = 6 then ((code_put.f k x0 (IntKind.u64.wrap (x264006))).bind fun t289 => (code_instBytes.l0 k t289 x15 x16 (wrap64 (x17 + 1)) x264000 x264001 x264002 x264003 x264004 x264005 x264006 x264007)) else (if (rd x15 x17) = 7 then ((code_put.f k x0 (IntKind.u64.wrap (x264006))).bind fun t292 => ((code_put.f k t292 (IntKind.u64.wrap (x264007))).bind fun t295 => (code_instBytes.l0 k t295 x15 x16 (wrap64 (x17 + 1)) x264000 x264001 x264002 x264003 x264004 x264005 x264006 x264007))) else (code_instBytes.l0 k x0 x15 x16 (wrap64 (x17 + 1)) x264000 x264001 x264002 x264003 x264004 x264005 x264006 x264007))))))))) else (none)) else (none)) else (some x0)
def code_instBytes.f (k : Nat) (l0 : List Int) (a1_0 : Int) (a1_1 : Int) (a1_2 : Int) (a1_3 : Int) (a1_4 : Int) (l1_5 : List Int) (a1_6 : Int) (a1_7 : Int) : Option (List Int) := if l0.length < 140737488355328 then ((code_pieces.f a1_0).bind fun t267 => (code_instBytes.l0 k (l0 ++ [(a1_0) % 256]) t267 (t267.length : Int) 0 a1_0 a1_1 a1_2 a1_3 a1_4 l1_5 a1_6 a1_7)) else (none)
theorem code_instBytes.mono_l : ∀ k, (∀ y0 y1 y2 y3 y4 y5 y6 y7 y8 y9 y10 y11, LeO (code_instBytes.l0 k y0 y1 y2 y3 y4 y5 y6 y7 y8 y9 y10 y11) (code_instBytes.l0 (k + 1) y0 y1 y2 y3 y4 y5 y6 y7 y8 y9 y10 y11))
 | 0 => fun _ _ _ _ _ _ _ _ _ _ _ _ r h => by simp [code_instBytes.l0] at h
 | k + 1 => by
  have ih0 := code_instBytes.mono_l k
  ·intro y0 y1 y2 y3 y4 y5 y6 y7 y8 y9 y10 y11
   unfold code_instBytes.l0
   repeat' first
   | (with_reducible exact ih0 _ _ _ _ _ _ _ _ _ _ _ _)
   | (with_reducible exact code_put.mono _ _ _)
   | (with_reducible exact code_slotList.mono _ _ _)
   | (with_reducible exact LeO.refl _)
   | (with_reducible exact LeO.none _)
   | (with_reducible refine LeO.ite ?_ ?_)
   | (with_reducible refine LeO.bind ?_ (fun _ => ?_))
   | exact ih0 _ _ _ _ _ _ _ _ _ _ _ _
   | exact code_put.mono _ _ _
   | exact code_slotList.mono _ _ _
   | exact LeO.none _
   | refine LeO.ite ?_ ?_
   | refine LeO.bind ?_ (fun _ => ?_)
theorem code_instBytes.mono : ∀ a0 a1 a2 a3 a4 a5 a6 a7 a8 k, LeO (code_instBytes.f k a0 a1 a2 a3 a4 a5 a6 a7 a8) (code_instBytes.f (k + 1) a0 a1 a2 a3 a4 a5 a6 a7 a8) := by
 intro a0 a1 a2 a3 a4 a5 a6 a7 a8 k
 have ih0 := code_instBytes.mono_l k
 unfold code_instBytes.f
 repeat' first
   | (with_reducible exact ih0 _ _ _ _ _ _ _ _ _ _ _ _)
   | (with_reducible exact code_put.mono _ _ _)
   | (with_reducible exact code_slotList.mono _ _ _)
   | (with_reducible exact LeO.refl _)
   | (with_reducible exact LeO.none _)
   | (with_reducible refine LeO.ite ?_ ?_)
   | (with_reducible refine LeO.bind ?_ (fun _ => ?_))
   | exact ih0 _ _ _ _ _ _ _ _ _ _ _ _
   | exact code_put.mono _ _ _
   | exact code_slotList.mono _ _ _
   | exact LeO.none _
   | refine LeO.ite ?_ ?_
   | refine LeO.bind ?_ (fun _ => ?_)
def code_instBytes.T21 : Bool × List (List Nat × List Nat) := (true, [([], []), ([], []), ([1], [1]), ([2], [2]), ([3], [3]), ([0, 4], [0, 4]), ([], []), ([6], [6]), ([7], [7]), ([8], [8]), ([5, 9, 5], [5, 9]), ([10, 10, 0, 1, 2, 3, 4, 5, 6, 7, 8, 9, 10], [0, 10])])
def code_instBytes.B21 : List Nat := [0, 0, 2, 6, 14, 31, 0, 64, 192, 448, 1023, 2047]
theorem code_instBytes.tab21 : rtab .any (opsOf Try.f42 21) = code_instBytes.T21 := by kernel_rfl
theorem code_instBytes.bits21 : waitsOk code_instBytes.T21.2 code_instBytes.B21 = true := by kernel_rfl
set_option maxHeartbeats 8000000 in
set_option maxRecDepth 100000 in
theorem code_instBytes.calls (k : Nat) (P0_ : Nat → Prop) (u9000_ : Value) (l0 : List Int) (a1_0 : Int) (a1_1 : Int) (a1_2 : Int) (a1_3 : Int) (a1_4 : Int) (A1_5 : Option Addr) (c1_5 : Nat) (l1_5 : List Int) (a1_6 : Int) (a1_7 : Int) (r : List Int) (w0 w : World) (hB : Below w0.heap.size w0 w) (ho0 : Kd.R (Kd.int .u8) 5 w w0.heap.size P0_ u9000_ l0) (hr1_5 : ∀ W_, Kept w W_ (fun k_ => P0_ k_) → Kd.C (Kd.int .i64) W_ A1_5 l1_5.length l1_5) (hc1_5 : l1_5.length ≤ c1_5) (h : code_instBytes.f k l0 a1_0 a1_1 a1_2 a1_3 a1_4 l1_5 a1_6 a1_7 = some r) :
  Calls Try.prog 42 #[u9000_, .agg #[.int .i64 a1_0, .int .i64 a1_1, .int .i64 a1_2, .int .i64 a1_3, .int .i64 a1_4, .slice A1_5 l1_5.length c1_5, .int .i64 a1_6, .int .i64 a1_7]] w fun e w' => ∃ v0_ : Value, e = .returned (v0_) ∧ Kd.R (Kd.int .u8) 5 w' w0.heap.size (fun k_ => (P0_ k_ ∨ w.heap.size ≤ k_)) v0_ r ∧ Below w0.heap.size w0 w' ∧ Kept w w' (fun k_ => P0_ k_) := by
 have hu51 := Try.underlying51
 have HO0 := Aside0.mk (show Kd.R (Kd.int .u8) 5 w w0.heap.size (fun k_ => (P0_ k_ ∨ w.heap.size ≤ k_)) u9000_ l0 from Kd.R_mono ho0 (fun k_ hk => (.inl hk)))
 have HR1_5 := Aside0.mk hr1_5
 have HC1_5 := Aside0.mk hc1_5
 clear hr1_5 hc1_5
 have HK := Aside0.mk (Kept.refl w (fun k_ => P0_ k_))
 have HW0 := Aside0.mk hB.size
 have HB := Aside0.mk hB
 clear hB
 have H : (if l0.length < 140737488355328 then ((code_pieces.f a1_0).bind fun t267 => (code_instBytes.l0 k (l0 ++ [(a1_0) % 256]) t267 (t267.length : Int) 0 a1_0 a1_1 a1_2 a1_3 a1_4 l1_5 a1_6 a1_7)) else (none)) = some r := h
 clear h
 by_cases c3 : l0.length < 140737488355328
 ·rw [if_pos c3] at H
  have LMc3 := Aside0.mk c3
  clear c3
  obtain ⟨y264, hy264⟩ : ∃ y_ : List Int, y_ = (l0 ++ [(a1_0) % 256]) := ⟨_, rfl⟩
  replace H : ((code_pieces.f a1_0).bind fun t267 => (code_instBytes.l0 k y264 t267 (t267.length : Int) 0 a1_0 a1_1 a1_2 a1_3 a1_4 l1_5 a1_6 a1_7)) = some r := by first | (rw [hy264]; with_reducible exact H) | (have H2_ := (Option.bind_some _ _).symm.trans H; rw [hy264]; with_reducible exact H2_) | (have H2_ := (Option.bind_some _ _).symm.trans H; with_reducible exact H2_) | with_reducible exact H | (rw [hy264]; exact H) | exact H
  have Ny264 := Aside0.mk hy264
  clear hy264
  replace H := Option.bind_eq_some_iff.mp H
  obtain ⟨t267, A40, H⟩ := H
  replace H : (code_instBytes.l0 k y264 t267 (t267.length : Int) 0 a1_0 a1_1 a1_2 a1_3 a1_4 l1_5 a1_6 a1_7) = some r := H
  have A4 := Aside0.mk A40
  clear A40
  have H' := Aside0.mk H
  clear H
  go_enter Try.func42, Try.ntmps42
  go_wp2_with (first | ((with_reducible refine gate_dst (N := 3) rfl ?_); refine box_event ?hg (N := 3) ?hd (cs := #[.int .i64 a1_0, .int .i64 a1_1, .int .i64 a1_2, .int .i64 a1_3, .int .i64 a1_4, .slice A1_5 l1_5.length c1_5, .int .i64 a1_6, .int .i64 a1_7]) (t := 51) ?hr ?_; (case hd => rfl); (case hg => rfl); (case hr => first | (go_simp; done) | (go_simp; rfl)); intro gb263 hg w5 hbox hb; have n0_ := Aside0.mk (Kd.R_below (zR HO0.out) hb); have n1_ := Aside0.mk (Kept.below (S := (fun k_ => P0_ k_)) (zH HK.out) hb); have n2_ := Aside0.mk (below_step (zB HB.out) hb); have n3_ := Aside0.mk (hbox); have n4_ := Aside0.mk ((by rw [hg]; exact (by first | exact HK.out.1 | exact (show Kept w _ (fun k_ => P0_ k_) from zH HK.out).1) : w.heap.size ≤ gb263)); have n5_ := Aside0.mk ((by rw [hg]; exact (below_size (zB HB.out)) : w0.heap.size ≤ gb263)); clear HO0; clear HK; clear HB; have HO0 := n0_; have HK := n1_; have HB := n2_; have BK263 := n3_; have GW263 := n4_; have GE263 := n5_; clear n0_ n1_ n2_ n3_ n4_ n5_; clear hb hbox hg; have hcz6_0 : w5.cell? ⟨gb263, 0, none⟩ = some (.int .i64 a1_0) := (blk_cell BK263.out 0).trans rfl; have hcz6_1 : w5.cell? ⟨gb263, 1, none⟩ = some (.int .i64 a1_1) := (blk_cell BK263.out 1).trans rfl; have hcz6_2 : w5.cell? ⟨gb263, 2, none⟩ = some (.int .i64 a1_2) := (blk_cell BK263.out 2).trans rfl; have hcz6_3 : w5.cell? ⟨gb263, 3, none⟩ = some (.int .i64 a1_3) := (blk_cell BK263.out 3).trans rfl; have hcz6_4 : w5.cell? ⟨gb263, 4, none⟩ = some (.int .i64 a1_4) := (blk_cell BK263.out 4).trans rfl; have hcz6_5 : w5.cell? ⟨gb263, 5, none⟩ = some (.slice A1_5 l1_5.length c1_5) := (blk_cell BK263.out 5).trans rfl; have hcz6_6 : w5.cell? ⟨gb263, 6, none⟩ = some (.int .i64 a1_6) := (blk_cell BK263.out 6).trans rfl; have hcz6_7 : w5.cell? ⟨gb263, 7, none⟩ = some (.int .i64 a1_7) := (blk_cell BK263.out 7).trans rfl; have hfz6_0 := blk_frozen BK263.out 0; have hfz6_1 := blk_frozen BK263.out 1; have hfz6_2 := blk_frozen BK263.out 2; have hfz6_3 := blk_frozen BK263.out 3; have hfz6_4 := blk_frozen BK263.out 4; have hfz6_5 := blk_frozen BK263.out 5; have hfz6_6 := blk_frozen BK263.out 6; have hfz6_7 := blk_frozen BK263.out 7) | ((with_reducible refine gate_builtin (b := .append) (xs := #[.tmp 7, .tmp 11]) rfl ?_); at_builtin; refine Kd.R_append (Kd.int .u8) (w0 := w0) w0.heap.size rfl (.tmp 7) (.tmp 11) 29 5 (.int .u8 0) 1 rfl Try.underlying29 info5 rfl (by decide) (by omega) u9000_ l0 ((a1_0) % 256) [.int .u8 ((a1_0) % 256)] (fun k_ => (P0_ k_ ∨ w.heap.size ≤ k_)) (fun _ => False) rfl rfl ?aP (fun _ hk => hk.elim) ?aF ?aO ?aB ?aS ?aL ?_; (case aP => exact rfl); (case aB => exact (zC HB.out GE263.out)); (case aF => exact (fun k_ hk => (.inr (Nat.le_trans (by first | exact HK.out.1 | exact (show Kept w _ (fun k_ => P0_ k_) from by repeat (first | (with_reducible first | exact HK.out | apply Kept.alloc | apply Kept.drewN | apply Kept.drew | refine Kept.setCell ?_ (.inr GW263.out) _) | exact HK.out)).1) hk)))); (case aO => exact (zR HO0.out)); (case aS => exact (below_size (zC HB.out GE263.out))); (case aL => have := LMc3.out; omega); intro v265 w7 ho hb hg hat; rw [← Ny264.out] at ho; have n0_ := Aside0.mk (blk_grown (g := gb263) (o := .cells #[.int .i64 a1_0, .int .i64 a1_1, .int .i64 a1_2, .int .i64 a1_3, .int .i64 a1_4, .slice A1_5 l1_5.length c1_5, .int .i64 a1_6, .int .i64 a1_7] 51 (0, 0)) (zK BK263.out) hg (Kd.R_ne HO0.out BK263.out (by decide))); have n1_ := Aside0.mk (hb); have n2_ := Aside0.mk (Kept.of_grown (S := (fun k_ => P0_ k_)) hg (by repeat (first | (with_reducible first | exact HK.out | apply Kept.alloc | apply Kept.drewN | apply Kept.drew | refine Kept.setCell ?_ (.inr GW263.out) _) | exact HK.out)) (fun k_ e_ => (HO0.out.1 k_ e_))); have n3_ := Aside0.mk (ho); clear BK263; clear HB; clear HK; clear HO0; have BK263 := n0_; have HB := n1_; have HK := n2_; have HO266 := n3_; clear n0_ n1_ n2_ n3_; clear ho hb hg hat; have hcz8_0 : w7.cell? ⟨gb263, 0, none⟩ = some (.int .i64 a1_0) := (blk_cell BK263.out 0).trans rfl; have hcz8_1 : w7.cell? ⟨gb263, 1, none⟩ = some (.int .i64 a1_1) := (blk_cell BK263.out 1).trans rfl; have hcz8_2 : w7.cell? ⟨gb263, 2, none⟩ = some (.int .i64 a1_2) := (blk_cell BK263.out 2).trans rfl; have hcz8_3 : w7.cell? ⟨gb263, 3, none⟩ = some (.int .i64 a1_3) := (blk_cell BK263.out 3).trans rfl; have hcz8_4 : w7.cell? ⟨gb263, 4, none⟩ = some (.int .i64 a1_4) := (blk_cell BK263.out 4).trans rfl; have hcz8_5 : w7.cell? ⟨gb263, 5, none⟩ = some (.slice A1_5 l1_5.length c1_5) := (blk_cell BK263.out 5).trans rfl; have hcz8_6 : w7.cell? ⟨gb263, 6, none⟩ = some (.int .i64 a1_6) := (blk_cell BK263.out 6).trans rfl; have hcz8_7 : w7.cell? ⟨gb263, 7, none⟩ = some (.int .i64 a1_7) := (blk_cell BK263.out 7).trans rfl; have hfz8_0 := blk_frozen BK263.out 0; have hfz8_1 := blk_frozen BK263.out 1; have hfz8_2 := blk_frozen BK263.out 2; have hfz8_3 := blk_frozen BK263.out 3; have hfz8_4 := blk_frozen BK263.out 4; have hfz8_5 := blk_frozen BK263.out 5; have hfz8_6 := blk_frozen BK263.out 6; have hfz8_7 := blk_frozen BK263.out 7) | ((with_reducible refine gate_callee (f := 68) rfl ?_); refine goesL_ (some 15) rfl rfl Try.func68 (by kernel_rfl) rfl #[.int .i64 a1_0] rfl zA ?_; (with_reducible refine (code_pieces.calls a1_0 t267 _ A4.out).mono ?_); rintro e w9 ⟨v268, rfl, ho0, hb⟩; refine ⟨_, rfl, ?_⟩; have NS_v268 := Aside0.mk ho0; have ho0_ := Kd.R_mono (ok' := fun _ => True) ho0 (fun _ _ => trivial); clear ho0; have ho0 := ho0_; clear ho0_; have n0_ := Aside0.mk (Kd.R_below (zR HO266.out) hb); have n1_ := Aside0.mk (Kd.R_lower (Kd.R_newM (M := fun k_ => (P0_ k_ ∨ w.heap.size ≤ k_)) ho0 (by first | exact HK.out.1 | exact (show Kept w _ (fun k_ => P0_ k_) from by repeat (first | (with_reducible first | exact HK.out | apply Kept.alloc | apply Kept.drewN | apply Kept.drew | refine Kept.setCell ?_ (.inr GW263.out) _) | exact HK.out)).1) (fun k_ h_ => .inr h_)) (below_size (zC HB.out GE263.out))); have n2_ := Aside0.mk (blk_below (g := gb263) (o := .cells #[.int .i64 a1_0, .int .i64 a1_1, .int .i64 a1_2, .int .i64 a1_3, .int .i64 a1_4, .slice A1_5 l1_5.length c1_5, .int .i64 a1_6, .int .i64 a1_7] 51 (0, 0)) (zK BK263.out) hb); have n3_ := Aside0.mk (Kept.below (S := (fun k_ => P0_ k_)) (by repeat (first | (with_reducible first | exact HK.out | apply Kept.alloc | apply Kept.drewN | apply Kept.drew | refine Kept.setCell ?_ (.inr GW263.out) _) | exact HK.out)) hb); have n4_ := Aside0.mk (below_step (zC HB.out GE263.out) hb); clear HO266; clear BK263; clear HK; clear HB; have HO266 := n0_; have HO269 := n1_; have BK263 := n2_; have HK := n3_; have HB := n4_; clear n0_ n1_ n2_ n3_ n4_; (try clear hb); (try clear hb2); (try clear hk); (try clear hi); (try clear ho0); obtain ⟨Ao10, co10, eo10⟩ := Kd.R_slice HO269.out; subst eo10; have hezo10 := fun W => nilEq (P := Try.prog) (w' := W) (t := 44) Try.underlying44 NS_v268.out))
  go_loopg [0, 17] k (fun kq v0 v17 w' => ∃ (x0_1 : List Int) (x17_1 : Int), v17 = .int .i64 x17_1 ∧ Aside0 (code_instBytes.l0 kq x0_1 t267 (t267.length : Int) x17_1 a1_0 a1_1 a1_2 a1_3 a1_4 l1_5 a1_6 a1_7 = some r) ∧ Aside0 (kq ≤ k) ∧ Aside0 (Kd.R (Kd.int .u8) 5 w' w0.heap.size (fun k_ => (P0_ k_ ∨ w.heap.size ≤ k_)) v0 x0_1) ∧ Aside0 (Kd.R (Kd.int .i64) 3 w' w0.heap.size (fun k_ => (P0_ k_ ∨ w.heap.size ≤ k_)) (.slice Ao10 t267.length co10) t267) ∧ Aside0 (w'.heap[gb263]? = some (.cells #[.int .i64 a1_0, .int .i64 a1_1, .int .i64 a1_2, .int .i64 a1_3, .int .i64 a1_4, (.slice A1_5 l1_5.length c1_5), .int .i64 a1_6, .int .i64 a1_7] 51 (0, 0))) ∧ Aside0 (Kept w w' (fun k_ => P0_ k_)) ∧ Aside0 (Below w0.heap.size w0 w'))
  case atStart => exact ⟨(y264), (0), (by first | rfl | (simp; done) | (simp [*]; done)), H', ⟨Nat.le_refl _⟩, ⟨zR HO266.out⟩, ⟨by (with_reducible repeat (first | apply Kd.R_alloc | apply Kd.R_drewN | apply Kd.R_drew)); exact Kd.R_mono HO269.out (fun _ hk => hk.1)⟩, ⟨zK BK263.out⟩, ⟨by repeat (first | (with_reducible first | exact HK.out | apply Kept.alloc | apply Kept.drewN | apply Kept.drew | refine Kept.setCell ?_ (.inr GW263.out) _) | exact HK.out)⟩, ⟨zC HB.out GE263.out⟩⟩
  case round =>
   clear H'
   try clear c1
   try clear p2
   try clear c3
   try clear c4
   try clear c6
   try clear hcz6_0
   try clear hcz6_1
   try clear hcz6_2
   try clear hcz6_3
   try clear hcz6_4
   try clear hcz6_5
   try clear hcz6_6
   try clear hcz6_7
   try clear hcz8_0
   try clear hcz8_1
   try clear hcz8_2
   try clear hcz8_3
   try clear hcz8_4
   try clear hcz8_5
   try clear hcz8_6
   try clear hcz8_7
   try clear hfz6_0
   try clear hfz6_1
   try clear hfz6_2
   try clear hfz6_3
   try clear hfz6_4
   try clear hfz6_5
   try clear hfz6_6
   try clear hfz6_7
   try clear hfz8_0
   try clear hfz8_1
   try clear hfz8_2
   try clear hfz8_3
   try clear hfz8_4
   try clear hfz8_5
   try clear hfz8_6
   try clear hfz8_7
   obtain ⟨x0_1, x17_1, rfl, HA, HK1, HO_0, HO_15, BK263, HK, HB⟩ := hrel
   cases gk with
   | zero => exact absurd HA.out (by simp [code_instBytes.l0])
   | succ k1 =>
    have H := HA.out
    clear HA
    simp only [code_instBytes.l0] at H
    by_cases c11 : x17_1 < (t267.length : Int)
    ·rw [if_pos c11] at H
     have c11b0 : decide (x17_1 < (t267.length : Int)) = true := decide_eq_true c11
     clear c11
     by_cases c12 : 0 ≤ x17_1
     ·rw [if_pos c12] at H
      have c12b0 : decide (0 ≤ x17_1) = true := decide_eq_true c12
      clear c12
      by_cases c13 : x17_1 < (t267.length : Int)
      ·rw [if_pos c13] at H
       have c13b0 : decide (x17_1 < (t267.length : Int)) = true := decide_eq_true c13
       clear c13
       by_cases c14 : (rd t267 x17_1) = 0
       ·rw [if_pos c14] at H
        have c14b0 : ((rd t267 x17_1) == 0) = true := beq_iff_eq.mpr c14
        have c14b1 : ((rd t267 x17_1) != 0) = false := bne_eq_false_iff_eq.mpr c14
        clear c14
        replace H := Option.bind_eq_some_iff.mp H
        obtain ⟨t271, A150, H⟩ := H
        replace H : (code_instBytes.l0 k1 t271 t267 (t267.length : Int) (wrap64 (x17_1 + 1)) a1_0 a1_1 a1_2 a1_3 a1_4 l1_5 a1_6 a1_7) = some r := H
        have A15 := Aside0.mk A150
        clear A150
        have H' := Aside0.mk H
        clear H
        have p270 : 0 ≤ (x17_1 : Int) := of_decide_eq_true zS
        have q270 : x17_1 < (t267.length : Int) := of_decide_eq_true zS
        obtain ⟨ad270, e270, hx270_0⟩ := Kd.at_int (Kd.R_reads' HO_15.out).2.2 x17_1 p270 q270
        cases e270
        replace p270 := eq_true p270
        replace q270 := eq_true q270
        have hcz16_0 : wr.cell? ⟨gb263, 0, none⟩ = some (.int .i64 a1_0) := (blk_cell BK263.out 0).trans rfl
        have hcz16_1 : wr.cell? ⟨gb263, 1, none⟩ = some (.int .i64 a1_1) := (blk_cell BK263.out 1).trans rfl
        have hcz16_2 : wr.cell? ⟨gb263, 2, none⟩ = some (.int .i64 a1_2) := (blk_cell BK263.out 2).trans rfl
        have hcz16_3 : wr.cell? ⟨gb263, 3, none⟩ = some (.int .i64 a1_3) := (blk_cell BK263.out 3).trans rfl
        have hcz16_4 : wr.cell? ⟨gb263, 4, none⟩ = some (.int .i64 a1_4) := (blk_cell BK263.out 4).trans rfl
        have hcz16_5 : wr.cell? ⟨gb263, 5, none⟩ = some (.slice A1_5 l1_5.length c1_5) := (blk_cell BK263.out 5).trans rfl
        have hcz16_6 : wr.cell? ⟨gb263, 6, none⟩ = some (.int .i64 a1_6) := (blk_cell BK263.out 6).trans rfl
        have hcz16_7 : wr.cell? ⟨gb263, 7, none⟩ = some (.int .i64 a1_7) := (blk_cell BK263.out 7).trans rfl
        have hfz16_0 := blk_frozen BK263.out 0
        have hfz16_1 := blk_frozen BK263.out 1
        have hfz16_2 := blk_frozen BK263.out 2
        have hfz16_3 := blk_frozen BK263.out 3
        have hfz16_4 := blk_frozen BK263.out 4
        have hfz16_5 := blk_frozen BK263.out 5
        have hfz16_6 := blk_frozen BK263.out 6
        have hfz16_7 := blk_frozen BK263.out 7
        obtain ⟨Ao17, co17, eo17⟩ := Kd.R_slice HO_0.out
        subst eo17
        go_wp2_with (first | ((with_reducible refine gate_callee (f := 40) rfl ?_); refine goesL_ (some 29) rfl rfl Try.func40 (by kernel_rfl) rfl #[.slice Ao17 x0_1.length co17, .int .u64 (IntKind.u64.wrap (wrap64 (a1_1 + 1)))] rfl zA ?_; (with_reducible refine (code_put.calls k1 (fun k_ => some k_ = (.slice Ao17 x0_1.length co17 : Value).ownBlock) (.slice Ao17 x0_1.length co17) x0_1 (IntKind.u64.wrap (wrap64 (a1_1 + 1))) t271 w0 _ ?side1 ?side2 A15.out).mono ?_); (case side1 => repeat (first | (with_reducible first | exact HB.out | apply below_alloc | apply pw_below_drewN | apply below_drew1 | refine below_set ?_ GE263.out) | exact HB.out)); (case side2 => exact Kd.R_tight rfl HO_0.out); rintro e w18 ⟨v272, rfl, ho0, hb, hkp⟩; refine ⟨_, rfl, ?_⟩; have n0_ := Aside0.mk (Kd.R_mono (ok' := fun k_ => (P0_ k_ ∨ w.heap.size ≤ k_)) (Kd.R_keptB ((Kd.R_apart' HO_15.out (Kd.R_typed HO_0.out) (by decide))) hkp (fun k_ hk_ hs_ => (hk_.2) hs_)) (fun k_ hk_ => hk_.1.1)); have n1_ := Aside0.mk (blk_kept (zK BK263.out) hkp (fun hs_ => (fun e_ => (Kd.R_ne HO_0.out BK263.out (by decide)) e_) hs_)); have n2_ := Aside0.mk (Kd.R_mono (ok' := fun k_ => (P0_ k_ ∨ w.heap.size ≤ k_)) ho0 (fun k_ hk_ => Or.elim hk_ (fun hs_ => (HO_0.out.1 k_ (hs_).symm)) (fun hn_ => (.inr (Nat.le_trans (by first | exact HK.out.1 | exact (show Kept w _ (fun k_ => P0_ k_) from by repeat (first | (with_reducible first | exact HK.out | apply Kept.alloc | apply Kept.drewN | apply Kept.drew | refine Kept.setCell ?_ (.inr GW263.out) _) | exact HK.out)).1) hn_))))); have n3_ := Aside0.mk (Kept.then_ (S := (fun k_ => P0_ k_)) (by repeat (first | (with_reducible first | exact HK.out | apply Kept.alloc | apply Kept.drewN | apply Kept.drew | refine Kept.setCell ?_ (.inr GW263.out) _) | exact HK.out)) hkp (fun k_ hs_ => (fun e_ => (HO_0.out.1 k_ e_.symm)) hs_)); have n4_ := Aside0.mk (hb); clear HO_15; clear BK263; clear HK; clear HB; clear HO_0; have HO_15 := n0_; have BK263 := n1_; have HO273 := n2_; have HK := n3_; have HB := n4_; clear n0_ n1_ n2_ n3_ n4_; (try clear hb); (try clear hkp); (try clear ho0)))
        go_roundg k1
        case measure => have := HK1.out; omega
        case rel => exact ⟨(t271), (wrap64 (x17_1 + 1)), (by first | rfl | (simp; done) | (simp [*]; done)), H', ⟨by have := HK1.out; omega⟩, ⟨zR HO273.out⟩, ⟨zR HO_15.out⟩, ⟨zK BK263.out⟩, ⟨by repeat (first | (with_reducible first | exact HK.out | apply Kept.alloc | apply Kept.drewN | apply Kept.drew | refine Kept.setCell ?_ (.inr GW263.out) _) | exact HK.out)⟩, ⟨zC HB.out GE263.out⟩⟩
       ·rw [if_neg c14] at H
        have c14b0 : ((rd t267 x17_1) == 0) = false := beq_eq_false_iff_ne.mpr c14
        have c14b1 : ((rd t267 x17_1) != 0) = true := bne_iff_ne.mpr c14
        by_cases c19 : (rd t267 x17_1) = 1
        ·rw [if_pos c19] at H
         have c19b0 : ((rd t267 x17_1) == 1) = true := beq_iff_eq.mpr c19
         have c19b1 : ((rd t267 x17_1) != 1) = false := bne_eq_false_iff_eq.mpr c19
         clear c19
         replace H := Option.bind_eq_some_iff.mp H
         obtain ⟨t274, A200, H⟩ := H
         replace H : (code_instBytes.l0 k1 t274 t267 (t267.length : Int) (wrap64 (x17_1 + 1)) a1_0 a1_1 a1_2 a1_3 a1_4 l1_5 a1_6 a1_7) = some r := H
         have A20 := Aside0.mk A200
         clear A200
         have H' := Aside0.mk H
         clear H
         have p270 : 0 ≤ (x17_1 : Int) := of_decide_eq_true zS
         have q270 : x17_1 < (t267.length : Int) := of_decide_eq_true zS
         obtain ⟨ad270, e270, hx270_0⟩ := Kd.at_int (Kd.R_reads' HO_15.out).2.2 x17_1 p270 q270
         cases e270
         replace p270 := eq_true p270
         replace q270 := eq_true q270
         have hcz21_0 : wr.cell? ⟨gb263, 0, none⟩ = some (.int .i64 a1_0) := (blk_cell BK263.out 0).trans rfl
         have hcz21_1 : wr.cell? ⟨gb263, 1, none⟩ = some (.int .i64 a1_1) := (blk_cell BK263.out 1).trans rfl
         have hcz21_2 : wr.cell? ⟨gb263, 2, none⟩ = some (.int .i64 a1_2) := (blk_cell BK263.out 2).trans rfl
         have hcz21_3 : wr.cell? ⟨gb263, 3, none⟩ = some (.int .i64 a1_3) := (blk_cell BK263.out 3).trans rfl
         have hcz21_4 : wr.cell? ⟨gb263, 4, none⟩ = some (.int .i64 a1_4) := (blk_cell BK263.out 4).trans rfl
         have hcz21_5 : wr.cell? ⟨gb263, 5, none⟩ = some (.slice A1_5 l1_5.length c1_5) := (blk_cell BK263.out 5).trans rfl
         have hcz21_6 : wr.cell? ⟨gb263, 6, none⟩ = some (.int .i64 a1_6) := (blk_cell BK263.out 6).trans rfl
         have hcz21_7 : wr.cell? ⟨gb263, 7, none⟩ = some (.int .i64 a1_7) := (blk_cell BK263.out 7).trans rfl
         have hfz21_0 := blk_frozen BK263.out 0
         have hfz21_1 := blk_frozen BK263.out 1
         have hfz21_2 := blk_frozen BK263.out 2
         have hfz21_3 := blk_frozen BK263.out 3
         have hfz21_4 := blk_frozen BK263.out 4
         have hfz21_5 := blk_frozen BK263.out 5
         have hfz21_6 := blk_frozen BK263.out 6
         have hfz21_7 := blk_frozen BK263.out 7
         obtain ⟨Ao22, co22, eo22⟩ := Kd.R_slice HO_0.out
         subst eo22
         go_wp2_with (first | ((with_reducible refine gate_callee (f := 40) rfl ?_); refine goesL_ (some 37) rfl rfl Try.func40 (by kernel_rfl) rfl #[.slice Ao22 x0_1.length co22, .int .u64 (IntKind.u64.wrap (wrap64 (a1_2 + 1)))] rfl zA ?_; (with_reducible refine (code_put.calls k1 (fun k_ => some k_ = (.slice Ao22 x0_1.length co22 : Value).ownBlock) (.slice Ao22 x0_1.length co22) x0_1 (IntKind.u64.wrap (wrap64 (a1_2 + 1))) t274 w0 _ ?side1 ?side2 A20.out).mono ?_); (case side1 => repeat (first | (with_reducible first | exact HB.out | apply below_alloc | apply pw_below_drewN | apply below_drew1 | refine below_set ?_ GE263.out) | exact HB.out)); (case side2 => exact Kd.R_tight rfl HO_0.out); rintro e w23 ⟨v275, rfl, ho0, hb, hkp⟩; refine ⟨_, rfl, ?_⟩; have n0_ := Aside0.mk (Kd.R_mono (ok' := fun k_ => (P0_ k_ ∨ w.heap.size ≤ k_)) (Kd.R_keptB ((Kd.R_apart' HO_15.out (Kd.R_typed HO_0.out) (by decide))) hkp (fun k_ hk_ hs_ => (hk_.2) hs_)) (fun k_ hk_ => hk_.1.1)); have n1_ := Aside0.mk (blk_kept (zK BK263.out) hkp (fun hs_ => (fun e_ => (Kd.R_ne HO_0.out BK263.out (by decide)) e_) hs_)); have n2_ := Aside0.mk (Kd.R_mono (ok' := fun k_ => (P0_ k_ ∨ w.heap.size ≤ k_)) ho0 (fun k_ hk_ => Or.elim hk_ (fun hs_ => (HO_0.out.1 k_ (hs_).symm)) (fun hn_ => (.inr (Nat.le_trans (by first | exact HK.out.1 | exact (show Kept w _ (fun k_ => P0_ k_) from by repeat (first | (with_reducible first | exact HK.out | apply Kept.alloc | apply Kept.drewN | apply Kept.drew | refine Kept.setCell ?_ (.inr GW263.out) _) | exact HK.out)).1) hn_))))); have n3_ := Aside0.mk (Kept.then_ (S := (fun k_ => P0_ k_)) (by repeat (first | (with_reducible first | exact HK.out | apply Kept.alloc | apply Kept.drewN | apply Kept.drew | refine Kept.setCell ?_ (.inr GW263.out) _) | exact HK.out)) hkp (fun k_ hs_ => (fun e_ => (HO_0.out.1 k_ e_.symm)) hs_)); have n4_ := Aside0.mk (hb); clear HO_15; clear BK263; clear HK; clear HB; clear HO_0; have HO_15 := n0_; have BK263 := n1_; have HO276 := n2_; have HK := n3_; have HB := n4_; clear n0_ n1_ n2_ n3_ n4_; (try clear hb); (try clear hkp); (try clear ho0)))
         go_roundg k1
         case measure => have := HK1.out; omega
         case rel => exact ⟨(t274), (wrap64 (x17_1 + 1)), (by first | rfl | (simp; done) | (simp [*]; done)), H', ⟨by have := HK1.out; omega⟩, ⟨zR HO276.out⟩, ⟨zR HO_15.out⟩, ⟨zK BK263.out⟩, ⟨by repeat (first | (with_reducible first | exact HK.out | apply Kept.alloc | apply Kept.drewN | apply Kept.drew | refine Kept.setCell ?_ (.inr GW263.out) _) | exact HK.out)⟩, ⟨zC HB.out GE263.out⟩⟩
        ·rw [if_neg c19] at H
         have c19b0 : ((rd t267 x17_1) == 1) = false := beq_eq_false_iff_ne.mpr c19
         have c19b1 : ((rd t267 x17_1) != 1) = true := bne_iff_ne.mpr c19
         by_cases c24 : (rd t267 x17_1) = 2
         ·rw [if_pos c24] at H
          have c24b0 : ((rd t267 x17_1) == 2) = true := beq_iff_eq.mpr c24
          have c24b1 : ((rd t267 x17_1) != 2) = false := bne_eq_false_iff_eq.mpr c24
          clear c24
          replace H := Option.bind_eq_some_iff.mp H
          obtain ⟨t277, A250, H⟩ := H
          replace H : (code_instBytes.l0 k1 t277 t267 (t267.length : Int) (wrap64 (x17_1 + 1)) a1_0 a1_1 a1_2 a1_3 a1_4 l1_5 a1_6 a1_7) = some r := H
          have A25 := Aside0.mk A250
          clear A250
          have H' := Aside0.mk H
          clear H
          have p270 : 0 ≤ (x17_1 : Int) := of_decide_eq_true zS
          have q270 : x17_1 < (t267.length : Int) := of_decide_eq_true zS
          obtain ⟨ad270, e270, hx270_0⟩ := Kd.at_int (Kd.R_reads' HO_15.out).2.2 x17_1 p270 q270
          cases e270
          replace p270 := eq_true p270
          replace q270 := eq_true q270
          have hcz26_0 : wr.cell? ⟨gb263, 0, none⟩ = some (.int .i64 a1_0) := (blk_cell BK263.out 0).trans rfl
          have hcz26_1 : wr.cell? ⟨gb263, 1, none⟩ = some (.int .i64 a1_1) := (blk_cell BK263.out 1).trans rfl
          have hcz26_2 : wr.cell? ⟨gb263, 2, none⟩ = some (.int .i64 a1_2) := (blk_cell BK263.out 2).trans rfl
          have hcz26_3 : wr.cell? ⟨gb263, 3, none⟩ = some (.int .i64 a1_3) := (blk_cell BK263.out 3).trans rfl
          have hcz26_4 : wr.cell? ⟨gb263, 4, none⟩ = some (.int .i64 a1_4) := (blk_cell BK263.out 4).trans rfl
          have hcz26_5 : wr.cell? ⟨gb263, 5, none⟩ = some (.slice A1_5 l1_5.length c1_5) := (blk_cell BK263.out 5).trans rfl
          have hcz26_6 : wr.cell? ⟨gb263, 6, none⟩ = some (.int .i64 a1_6) := (blk_cell BK263.out 6).trans rfl
          have hcz26_7 : wr.cell? ⟨gb263, 7, none⟩ = some (.int .i64 a1_7) := (blk_cell BK263.out 7).trans rfl
          have hfz26_0 := blk_frozen BK263.out 0
          have hfz26_1 := blk_frozen BK263.out 1
          have hfz26_2 := blk_frozen BK263.out 2
          have hfz26_3 := blk_frozen BK263.out 3
          have hfz26_4 := blk_frozen BK263.out 4
          have hfz26_5 := blk_frozen BK263.out 5
          have hfz26_6 := blk_frozen BK263.out 6
          have hfz26_7 := blk_frozen BK263.out 7
          obtain ⟨Ao27, co27, eo27⟩ := Kd.R_slice HO_0.out
          subst eo27
          go_wp2_with (first | ((with_reducible refine gate_callee (f := 40) rfl ?_); refine goesL_ (some 45) rfl rfl Try.func40 (by kernel_rfl) rfl #[.slice Ao27 x0_1.length co27, .int .u64 (IntKind.u64.wrap (wrap64 (a1_3 + 1)))] rfl zA ?_; (with_reducible refine (code_put.calls k1 (fun k_ => some k_ = (.slice Ao27 x0_1.length co27 : Value).ownBlock) (.slice Ao27 x0_1.length co27) x0_1 (IntKind.u64.wrap (wrap64 (a1_3 + 1))) t277 w0 _ ?side1 ?side2 A25.out).mono ?_); (case side1 => repeat (first | (with_reducible first | exact HB.out | apply below_alloc | apply pw_below_drewN | apply below_drew1 | refine below_set ?_ GE263.out) | exact HB.out)); (case side2 => exact Kd.R_tight rfl HO_0.out); rintro e w28 ⟨v278, rfl, ho0, hb, hkp⟩; refine ⟨_, rfl, ?_⟩; have n0_ := Aside0.mk (Kd.R_mono (ok' := fun k_ => (P0_ k_ ∨ w.heap.size ≤ k_)) (Kd.R_keptB ((Kd.R_apart' HO_15.out (Kd.R_typed HO_0.out) (by decide))) hkp (fun k_ hk_ hs_ => (hk_.2) hs_)) (fun k_ hk_ => hk_.1.1)); have n1_ := Aside0.mk (blk_kept (zK BK263.out) hkp (fun hs_ => (fun e_ => (Kd.R_ne HO_0.out BK263.out (by decide)) e_) hs_)); have n2_ := Aside0.mk (Kd.R_mono (ok' := fun k_ => (P0_ k_ ∨ w.heap.size ≤ k_)) ho0 (fun k_ hk_ => Or.elim hk_ (fun hs_ => (HO_0.out.1 k_ (hs_).symm)) (fun hn_ => (.inr (Nat.le_trans (by first | exact HK.out.1 | exact (show Kept w _ (fun k_ => P0_ k_) from by repeat (first | (with_reducible first | exact HK.out | apply Kept.alloc | apply Kept.drewN | apply Kept.drew | refine Kept.setCell ?_ (.inr GW263.out) _) | exact HK.out)).1) hn_))))); have n3_ := Aside0.mk (Kept.then_ (S := (fun k_ => P0_ k_)) (by repeat (first | (with_reducible first | exact HK.out | apply Kept.alloc | apply Kept.drewN | apply Kept.drew | refine Kept.setCell ?_ (.inr GW263.out) _) | exact HK.out)) hkp (fun k_ hs_ => (fun e_ => (HO_0.out.1 k_ e_.symm)) hs_)); have n4_ := Aside0.mk (hb); clear HO_15; clear BK263; clear HK; clear HB; clear HO_0; have HO_15 := n0_; have BK263 := n1_; have HO279 := n2_; have HK := n3_; have HB := n4_; clear n0_ n1_ n2_ n3_ n4_; (try clear hb); (try clear hkp); (try clear ho0)))
          go_roundg k1
          case measure => have := HK1.out; omega
          case rel => exact ⟨(t277), (wrap64 (x17_1 + 1)), (by first | rfl | (simp; done) | (simp [*]; done)), H', ⟨by have := HK1.out; omega⟩, ⟨zR HO279.out⟩, ⟨zR HO_15.out⟩, ⟨zK BK263.out⟩, ⟨by repeat (first | (with_reducible first | exact HK.out | apply Kept.alloc | apply Kept.drewN | apply Kept.drew | refine Kept.setCell ?_ (.inr GW263.out) _) | exact HK.out)⟩, ⟨zC HB.out GE263.out⟩⟩
         ·rw [if_neg c24] at H
          have c24b0 : ((rd t267 x17_1) == 2) = false := beq_eq_false_iff_ne.mpr c24
          have c24b1 : ((rd t267 x17_1) != 2) = true := bne_iff_ne.mpr c24
          by_cases c29 : (rd t267 x17_1) = 3
          ·rw [if_pos c29] at H
           have c29b0 : ((rd t267 x17_1) == 3) = true := beq_iff_eq.mpr c29
           have c29b1 : ((rd t267 x17_1) != 3) = false := bne_eq_false_iff_eq.mpr c29
           clear c29
           replace H := Option.bind_eq_some_iff.mp H
           obtain ⟨t280, A300, H⟩ := H
           replace H : (code_instBytes.l0 k1 t280 t267 (t267.length : Int) (wrap64 (x17_1 + 1)) a1_0 a1_1 a1_2 a1_3 a1_4 l1_5 a1_6 a1_7) = some r := H
           have A30 := Aside0.mk A300
           clear A300
           have H' := Aside0.mk H
           clear H
           have p270 : 0 ≤ (x17_1 : Int) := of_decide_eq_true zS
           have q270 : x17_1 < (t267.length : Int) := of_decide_eq_true zS
           obtain ⟨ad270, e270, hx270_0⟩ := Kd.at_int (Kd.R_reads' HO_15.out).2.2 x17_1 p270 q270
           cases e270
           replace p270 := eq_true p270
           replace q270 := eq_true q270
           have hcz31_0 : wr.cell? ⟨gb263, 0, none⟩ = some (.int .i64 a1_0) := (blk_cell BK263.out 0).trans rfl
           have hcz31_1 : wr.cell? ⟨gb263, 1, none⟩ = some (.int .i64 a1_1) := (blk_cell BK263.out 1).trans rfl
           have hcz31_2 : wr.cell? ⟨gb263, 2, none⟩ = some (.int .i64 a1_2) := (blk_cell BK263.out 2).trans rfl
           have hcz31_3 : wr.cell? ⟨gb263, 3, none⟩ = some (.int .i64 a1_3) := (blk_cell BK263.out 3).trans rfl
           have hcz31_4 : wr.cell? ⟨gb263, 4, none⟩ = some (.int .i64 a1_4) := (blk_cell BK263.out 4).trans rfl
           have hcz31_5 : wr.cell? ⟨gb263, 5, none⟩ = some (.slice A1_5 l1_5.length c1_5) := (blk_cell BK263.out 5).trans rfl
           have hcz31_6 : wr.cell? ⟨gb263, 6, none⟩ = some (.int .i64 a1_6) := (blk_cell BK263.out 6).trans rfl
           have hcz31_7 : wr.cell? ⟨gb263, 7, none⟩ = some (.int .i64 a1_7) := (blk_cell BK263.out 7).trans rfl
           have hfz31_0 := blk_frozen BK263.out 0
           have hfz31_1 := blk_frozen BK263.out 1
           have hfz31_2 := blk_frozen BK263.out 2
           have hfz31_3 := blk_frozen BK263.out 3
           have hfz31_4 := blk_frozen BK263.out 4
           have hfz31_5 := blk_frozen BK263.out 5
           have hfz31_6 := blk_frozen BK263.out 6
           have hfz31_7 := blk_frozen BK263.out 7
           obtain ⟨Ao32, co32, eo32⟩ := Kd.R_slice HO_0.out
           subst eo32
           go_wp2_with (first | ((with_reducible refine gate_callee (f := 40) rfl ?_); refine goesL_ (some 52) rfl rfl Try.func40 (by kernel_rfl) rfl #[.slice Ao32 x0_1.length co32, .int .u64 (IntKind.u64.wrap (a1_4))] rfl zA ?_; (with_reducible refine (code_put.calls k1 (fun k_ => some k_ = (.slice Ao32 x0_1.length co32 : Value).ownBlock) (.slice Ao32 x0_1.length co32) x0_1 (IntKind.u64.wrap (a1_4)) t280 w0 _ ?side1 ?side2 A30.out).mono ?_); (case side1 => repeat (first | (with_reducible first | exact HB.out | apply below_alloc | apply pw_below_drewN | apply below_drew1 | refine below_set ?_ GE263.out) | exact HB.out)); (case side2 => exact Kd.R_tight rfl HO_0.out); rintro e w33 ⟨v281, rfl, ho0, hb, hkp⟩; refine ⟨_, rfl, ?_⟩; have n0_ := Aside0.mk (Kd.R_mono (ok' := fun k_ => (P0_ k_ ∨ w.heap.size ≤ k_)) (Kd.R_keptB ((Kd.R_apart' HO_15.out (Kd.R_typed HO_0.out) (by decide))) hkp (fun k_ hk_ hs_ => (hk_.2) hs_)) (fun k_ hk_ => hk_.1.1)); have n1_ := Aside0.mk (blk_kept (zK BK263.out) hkp (fun hs_ => (fun e_ => (Kd.R_ne HO_0.out BK263.out (by decide)) e_) hs_)); have n2_ := Aside0.mk (Kd.R_mono (ok' := fun k_ => (P0_ k_ ∨ w.heap.size ≤ k_)) ho0 (fun k_ hk_ => Or.elim hk_ (fun hs_ => (HO_0.out.1 k_ (hs_).symm)) (fun hn_ => (.inr (Nat.le_trans (by first | exact HK.out.1 | exact (show Kept w _ (fun k_ => P0_ k_) from by repeat (first | (with_reducible first | exact HK.out | apply Kept.alloc | apply Kept.drewN | apply Kept.drew | refine Kept.setCell ?_ (.inr GW263.out) _) | exact HK.out)).1) hn_))))); have n3_ := Aside0.mk (Kept.then_ (S := (fun k_ => P0_ k_)) (by repeat (first | (with_reducible first | exact HK.out | apply Kept.alloc | apply Kept.drewN | apply Kept.drew | refine Kept.setCell ?_ (.inr GW263.out) _) | exact HK.out)) hkp (fun k_ hs_ => (fun e_ => (HO_0.out.1 k_ e_.symm)) hs_)); have n4_ := Aside0.mk (hb); clear HO_15; clear BK263; clear HK; clear HB; clear HO_0; have HO_15 := n0_; have BK263 := n1_; have HO282 := n2_; have HK := n3_; have HB := n4_; clear n0_ n1_ n2_ n3_ n4_; (try clear hb); (try clear hkp); (try clear ho0)))
           go_roundg k1
           case measure => have := HK1.out; omega
           case rel => exact ⟨(t280), (wrap64 (x17_1 + 1)), (by first | rfl | (simp; done) | (simp [*]; done)), H', ⟨by have := HK1.out; omega⟩, ⟨zR HO282.out⟩, ⟨zR HO_15.out⟩, ⟨zK BK263.out⟩, ⟨by repeat (first | (with_reducible first | exact HK.out | apply Kept.alloc | apply Kept.drewN | apply Kept.drew | refine Kept.setCell ?_ (.inr GW263.out) _) | exact HK.out)⟩, ⟨zC HB.out GE263.out⟩⟩
          ·rw [if_neg c29] at H
           have c29b0 : ((rd t267 x17_1) == 3) = false := beq_eq_false_iff_ne.mpr c29
           have c29b1 : ((rd t267 x17_1) != 3) = true := bne_iff_ne.mpr c29
           by_cases c34 : (rd t267 x17_1) = 4
           ·rw [if_pos c34] at H
            have c34b0 : ((rd t267 x17_1) == 4) = true := beq_iff_eq.mpr c34
            have c34b1 : ((rd t267 x17_1) != 4) = false := bne_eq_false_iff_eq.mpr c34
            clear c34
            replace H := Option.bind_eq_some_iff.mp H
            obtain ⟨t283, A350, H⟩ := H
            replace H : (code_instBytes.l0 k1 t283 t267 (t267.length : Int) (wrap64 (x17_1 + 1)) a1_0 a1_1 a1_2 a1_3 a1_4 l1_5 a1_6 a1_7) = some r := H
            have A35 := Aside0.mk A350
            clear A350
            have H' := Aside0.mk H
            clear H
            have p270 : 0 ≤ (x17_1 : Int) := of_decide_eq_true zS
            have q270 : x17_1 < (t267.length : Int) := of_decide_eq_true zS
            obtain ⟨ad270, e270, hx270_0⟩ := Kd.at_int (Kd.R_reads' HO_15.out).2.2 x17_1 p270 q270
            cases e270
            replace p270 := eq_true p270
            replace q270 := eq_true q270
            have hcz36_0 : wr.cell? ⟨gb263, 0, none⟩ = some (.int .i64 a1_0) := (blk_cell BK263.out 0).trans rfl
            have hcz36_1 : wr.cell? ⟨gb263, 1, none⟩ = some (.int .i64 a1_1) := (blk_cell BK263.out 1).trans rfl
            have hcz36_2 : wr.cell? ⟨gb263, 2, none⟩ = some (.int .i64 a1_2) := (blk_cell BK263.out 2).trans rfl
            have hcz36_3 : wr.cell? ⟨gb263, 3, none⟩ = some (.int .i64 a1_3) := (blk_cell BK263.out 3).trans rfl
            have hcz36_4 : wr.cell? ⟨gb263, 4, none⟩ = some (.int .i64 a1_4) := (blk_cell BK263.out 4).trans rfl
            have hcz36_5 : wr.cell? ⟨gb263, 5, none⟩ = some (.slice A1_5 l1_5.length c1_5) := (blk_cell BK263.out 5).trans rfl
            have hcz36_6 : wr.cell? ⟨gb263, 6, none⟩ = some (.int .i64 a1_6) := (blk_cell BK263.out 6).trans rfl
            have hcz36_7 : wr.cell? ⟨gb263, 7, none⟩ = some (.int .i64 a1_7) := (blk_cell BK263.out 7).trans rfl
            have hfz36_0 := blk_frozen BK263.out 0
            have hfz36_1 := blk_frozen BK263.out 1
            have hfz36_2 := blk_frozen BK263.out 2
            have hfz36_3 := blk_frozen BK263.out 3
            have hfz36_4 := blk_frozen BK263.out 4
            have hfz36_5 := blk_frozen BK263.out 5
            have hfz36_6 := blk_frozen BK263.out 6
            have hfz36_7 := blk_frozen BK263.out 7
            obtain ⟨Ao37, co37, eo37⟩ := Kd.R_slice HO_0.out
            subst eo37
            go_wp2_with (first | ((with_reducible refine gate_callee (f := 40) rfl ?_); refine goesL_ (some 65) rfl rfl Try.func40 (by kernel_rfl) rfl #[.slice Ao37 x0_1.length co37, .int .u64 (Go.bits .xor .u64 (IntKind.u64.wrap ((IntKind.u64.wrap (a1_4)) * 2)) (IntKind.u64.wrap (a1_4 / 9223372036854775808)))] rfl zA ?_; (with_reducible refine (code_put.calls k1 (fun k_ => some k_ = (.slice Ao37 x0_1.length co37 : Value).ownBlock) (.slice Ao37 x0_1.length co37) x0_1 (Go.bits .xor .u64 (IntKind.u64.wrap ((IntKind.u64.wrap (a1_4)) * 2)) (IntKind.u64.wrap (a1_4 / 9223372036854775808))) t283 w0 _ ?side1 ?side2 A35.out).mono ?_); (case side1 => repeat (first | (with_reducible first | exact HB.out | apply below_alloc | apply pw_below_drewN | apply below_drew1 | refine below_set ?_ GE263.out) | exact HB.out)); (case side2 => exact Kd.R_tight rfl HO_0.out); rintro e w38 ⟨v284, rfl, ho0, hb, hkp⟩; refine ⟨_, rfl, ?_⟩; have n0_ := Aside0.mk (Kd.R_mono (ok' := fun k_ => (P0_ k_ ∨ w.heap.size ≤ k_)) (Kd.R_keptB ((Kd.R_apart' HO_15.out (Kd.R_typed HO_0.out) (by decide))) hkp (fun k_ hk_ hs_ => (hk_.2) hs_)) (fun k_ hk_ => hk_.1.1)); have n1_ := Aside0.mk (blk_kept (zK BK263.out) hkp (fun hs_ => (fun e_ => (Kd.R_ne HO_0.out BK263.out (by decide)) e_) hs_)); have n2_ := Aside0.mk (Kd.R_mono (ok' := fun k_ => (P0_ k_ ∨ w.heap.size ≤ k_)) ho0 (fun k_ hk_ => Or.elim hk_ (fun hs_ => (HO_0.out.1 k_ (hs_).symm)) (fun hn_ => (.inr (Nat.le_trans (by first | exact HK.out.1 | exact (show Kept w _ (fun k_ => P0_ k_) from by repeat (first | (with_reducible first | exact HK.out | apply Kept.alloc | apply Kept.drewN | apply Kept.drew | refine Kept.setCell ?_ (.inr GW263.out) _) | exact HK.out)).1) hn_))))); have n3_ := Aside0.mk (Kept.then_ (S := (fun k_ => P0_ k_)) (by repeat (first | (with_reducible first | exact HK.out | apply Kept.alloc | apply Kept.drewN | apply Kept.drew | refine Kept.setCell ?_ (.inr GW263.out) _) | exact HK.out)) hkp (fun k_ hs_ => (fun e_ => (HO_0.out.1 k_ e_.symm)) hs_)); have n4_ := Aside0.mk (hb); clear HO_15; clear BK263; clear HK; clear HB; clear HO_0; have HO_15 := n0_; have BK263 := n1_; have HO285 := n2_; have HK := n3_; have HB := n4_; clear n0_ n1_ n2_ n3_ n4_; (try clear hb); (try clear hkp); (try clear ho0)))
            go_roundg k1
            case measure => have := HK1.out; omega
            case rel => exact ⟨(t283), (wrap64 (x17_1 + 1)), (by first | rfl | (simp; done) | (simp [*]; done)), H', ⟨by have := HK1.out; omega⟩, ⟨zR HO285.out⟩, ⟨zR HO_15.out⟩, ⟨zK BK263.out⟩, ⟨by repeat (first | (with_reducible first | exact HK.out | apply Kept.alloc | apply Kept.drewN | apply Kept.drew | refine Kept.setCell ?_ (.inr GW263.out) _) | exact HK.out)⟩, ⟨zC HB.out GE263.out⟩⟩
           ·rw [if_neg c34] at H
            have c34b0 : ((rd t267 x17_1) == 4) = false := beq_eq_false_iff_ne.mpr c34
            have c34b1 : ((rd t267 x17_1) != 4) = true := bne_iff_ne.mpr c34
            by_cases c39 : (rd t267 x17_1) = 5
            ·rw [if_pos c39] at H
             have c39b0 : ((rd t267 x17_1) == 5) = true := beq_iff_eq.mpr c39
             have c39b1 : ((rd t267 x17_1) != 5) = false := bne_eq_false_iff_eq.mpr c39
             clear c39
             replace H := Option.bind_eq_some_iff.mp H
             obtain ⟨t286, A400, H⟩ := H
             replace H : (code_instBytes.l0 k1 t286 t267 (t267.length : Int) (wrap64 (x17_1 + 1)) a1_0 a1_1 a1_2 a1_3 a1_4 l1_5 a1_6 a1_7) = some r := H
             have A40 := Aside0.mk A400
             clear A400
             have H' := Aside0.mk H
             clear H
             have p270 : 0 ≤ (x17_1 : Int) := of_decide_eq_true zS
             have q270 : x17_1 < (t267.length : Int) := of_decide_eq_true zS
             obtain ⟨ad270, e270, hx270_0⟩ := Kd.at_int (Kd.R_reads' HO_15.out).2.2 x17_1 p270 q270
             cases e270
             replace p270 := eq_true p270
             replace q270 := eq_true q270
             have hcz41_0 : wr.cell? ⟨gb263, 0, none⟩ = some (.int .i64 a1_0) := (blk_cell BK263.out 0).trans rfl
             have hcz41_1 : wr.cell? ⟨gb263, 1, none⟩ = some (.int .i64 a1_1) := (blk_cell BK263.out 1).trans rfl
             have hcz41_2 : wr.cell? ⟨gb263, 2, none⟩ = some (.int .i64 a1_2) := (blk_cell BK263.out 2).trans rfl
             have hcz41_3 : wr.cell? ⟨gb263, 3, none⟩ = some (.int .i64 a1_3) := (blk_cell BK263.out 3).trans rfl
             have hcz41_4 : wr.cell? ⟨gb263, 4, none⟩ = some (.int .i64 a1_4) := (blk_cell BK263.out 4).trans rfl
             have hcz41_5 : wr.cell? ⟨gb263, 5, none⟩ = some (.slice A1_5 l1_5.length c1_5) := (blk_cell BK263.out 5).trans rfl
             have hcz41_6 : wr.cell? ⟨gb263, 6, none⟩ = some (.int .i64 a1_6) := (blk_cell BK263.out 6).trans rfl
             have hcz41_7 : wr.cell? ⟨gb263, 7, none⟩ = some (.int .i64 a1_7) := (blk_cell BK263.out 7).trans rfl
             have hfz41_0 := blk_frozen BK263.out 0
             have hfz41_1 := blk_frozen BK263.out 1
             have hfz41_2 := blk_frozen BK263.out 2
             have hfz41_3 := blk_frozen BK263.out 3
             have hfz41_4 := blk_frozen BK263.out 4
             have hfz41_5 := blk_frozen BK263.out 5
             have hfz41_6 := blk_frozen BK263.out 6
             have hfz41_7 := blk_frozen BK263.out 7
             obtain ⟨Ao42, co42, eo42⟩ := Kd.R_slice HO_0.out
             subst eo42
             go_wp2_with (first | ((with_reducible refine gate_callee (f := 41) rfl ?_); refine goesL_ (some 71) rfl rfl Try.func41 (by kernel_rfl) rfl #[.slice Ao42 x0_1.length co42, .slice A1_5 l1_5.length c1_5] rfl zA ?_; (with_reducible refine (code_slotList.calls k1 (fun k_ => some k_ = (.slice Ao42 x0_1.length co42 : Value).ownBlock) (.slice Ao42 x0_1.length co42) x0_1 _ _ l1_5 t286 w0 _ ?side1 ?side2 ?side3 ?side4 A40.out).mono ?_); (case side1 => repeat (first | (with_reducible first | exact HB.out | apply below_alloc | apply pw_below_drewN | apply below_drew1 | refine below_set ?_ GE263.out) | exact HB.out)); (case side2 => exact Kd.R_tight rfl HO_0.out); (case side3 => exact Kd.C_kept_call HR1_5.out (by repeat (first | (with_reducible first | exact HK.out | apply Kept.alloc | apply Kept.drewN | apply Kept.drew | refine Kept.setCell ?_ (.inr GW263.out) _) | exact HK.out)) (fun k_ hs_ => (fun e_ => (HO_0.out.1 k_ e_.symm)) hs_)); (case side4 => exact HC1_5.out); rintro e w43 ⟨v287, rfl, ho0, hb, hkp⟩; refine ⟨_, rfl, ?_⟩; have n0_ := Aside0.mk (Kd.R_mono (ok' := fun k_ => (P0_ k_ ∨ w.heap.size ≤ k_)) (Kd.R_keptB ((Kd.R_apart' HO_15.out (Kd.R_typed HO_0.out) (by decide))) hkp (fun k_ hk_ hs_ => (hk_.2) hs_)) (fun k_ hk_ => hk_.1.1)); have n1_ := Aside0.mk (blk_kept (zK BK263.out) hkp (fun hs_ => (fun e_ => (Kd.R_ne HO_0.out BK263.out (by decide)) e_) hs_)); have n2_ := Aside0.mk (Kd.R_mono (ok' := fun k_ => (P0_ k_ ∨ w.heap.size ≤ k_)) ho0 (fun k_ hk_ => Or.elim hk_ (fun hs_ => (HO_0.out.1 k_ (hs_).symm)) (fun hn_ => (.inr (Nat.le_trans (by first | exact HK.out.1 | exact (show Kept w _ (fun k_ => P0_ k_) from by repeat (first | (with_reducible first | exact HK.out | apply Kept.alloc | apply Kept.drewN | apply Kept.drew | refine Kept.setCell ?_ (.inr GW263.out) _) | exact HK.out)).1) hn_))))); have n3_ := Aside0.mk (Kept.then_ (S := (fun k_ => P0_ k_)) (by repeat (first | (with_reducible first | exact HK.out | apply Kept.alloc | apply Kept.drewN | apply Kept.drew | refine Kept.setCell ?_ (.inr GW263.out) _) | exact HK.out)) hkp (fun k_ hs_ => (fun e_ => (HO_0.out.1 k_ e_.symm)) hs_)); have n4_ := Aside0.mk (hb); clear HO_15; clear BK263; clear HK; clear HB; clear HO_0; have HO_15 := n0_; have BK263 := n1_; have HO288 := n2_; have HK := n3_; have HB := n4_; clear n0_ n1_ n2_ n3_ n4_; (try clear hb); (try clear hkp); (try clear ho0)))
             go_roundg k1
             case measure => have := HK1.out; omega
             case rel => exact ⟨(t286), (wrap64 (x17_1 + 1)), (by first | rfl | (simp; done) | (simp [*]; done)), H', ⟨by have := HK1.out; omega⟩, ⟨zR HO288.out⟩, ⟨zR HO_15.out⟩, ⟨zK BK263.out⟩, ⟨by repeat (first | (with_reducible first | exact HK.out | apply Kept.alloc | apply Kept.drewN | apply Kept.drew | refine Kept.setCell ?_ (.inr GW263.out) _) | exact HK.out)⟩, ⟨zC HB.out GE263.out⟩⟩
            ·rw [if_neg c39] at H
             have c39b0 : ((rd t267 x17_1) == 5) = false := beq_eq_false_iff_ne.mpr c39
             have c39b1 : ((rd t267 x17_1) != 5) = true := bne_iff_ne.mpr c39
             by_cases c44 : (rd t267 x17_1) = 6
             ·rw [if_pos c44] at H
              have c44b0 : ((rd t267 x17_1) == 6) = true := beq_iff_eq.mpr c44
              have c44b1 : ((rd t267 x17_1) != 6) = false := bne_eq_false_iff_eq.mpr c44
              clear c44
              replace H := Option.bind_eq_some_iff.mp H
              obtain ⟨t289, A450, H⟩ := H
              replace H : (code_instBytes.l0 k1 t289 t267 (t267.length : Int) (wrap64 (x17_1 + 1)) a1_0 a1_1 a1_2 a1_3 a1_4 l1_5 a1_6 a1_7) = some r := H
              have A45 := Aside0.mk A450
              clear A450
              have H' := Aside0.mk H
              clear H
              have p270 : 0 ≤ (x17_1 : Int) := of_decide_eq_true zS
              have q270 : x17_1 < (t267.length : Int) := of_decide_eq_true zS
              obtain ⟨ad270, e270, hx270_0⟩ := Kd.at_int (Kd.R_reads' HO_15.out).2.2 x17_1 p270 q270
              cases e270
              replace p270 := eq_true p270
              replace q270 := eq_true q270
              have hcz46_0 : wr.cell? ⟨gb263, 0, none⟩ = some (.int .i64 a1_0) := (blk_cell BK263.out 0).trans rfl
              have hcz46_1 : wr.cell? ⟨gb263, 1, none⟩ = some (.int .i64 a1_1) := (blk_cell BK263.out 1).trans rfl
              have hcz46_2 : wr.cell? ⟨gb263, 2, none⟩ = some (.int .i64 a1_2) := (blk_cell BK263.out 2).trans rfl
              have hcz46_3 : wr.cell? ⟨gb263, 3, none⟩ = some (.int .i64 a1_3) := (blk_cell BK263.out 3).trans rfl
              have hcz46_4 : wr.cell? ⟨gb263, 4, none⟩ = some (.int .i64 a1_4) := (blk_cell BK263.out 4).trans rfl
              have hcz46_5 : wr.cell? ⟨gb263, 5, none⟩ = some (.slice A1_5 l1_5.length c1_5) := (blk_cell BK263.out 5).trans rfl
              have hcz46_6 : wr.cell? ⟨gb263, 6, none⟩ = some (.int .i64 a1_6) := (blk_cell BK263.out 6).trans rfl
              have hcz46_7 : wr.cell? ⟨gb263, 7, none⟩ = some (.int .i64 a1_7) := (blk_cell BK263.out 7).trans rfl
              have hfz46_0 := blk_frozen BK263.out 0
              have hfz46_1 := blk_frozen BK263.out 1
              have hfz46_2 := blk_frozen BK263.out 2
              have hfz46_3 := blk_frozen BK263.out 3
              have hfz46_4 := blk_frozen BK263.out 4
              have hfz46_5 := blk_frozen BK263.out 5
              have hfz46_6 := blk_frozen BK263.out 6
              have hfz46_7 := blk_frozen BK263.out 7
              obtain ⟨Ao47, co47, eo47⟩ := Kd.R_slice HO_0.out
              subst eo47
              go_wp2_with (first | ((with_reducible refine gate_callee (f := 40) rfl ?_); refine goesL_ (some 79) rfl rfl Try.func40 (by kernel_rfl) rfl #[.slice Ao47 x0_1.length co47, .int .u64 (IntKind.u64.wrap (a1_6))] rfl zA ?_; (with_reducible refine (code_put.calls k1 (fun k_ => some k_ = (.slice Ao47 x0_1.length co47 : Value).ownBlock) (.slice Ao47 x0_1.length co47) x0_1 (IntKind.u64.wrap (a1_6)) t289 w0 _ ?side1 ?side2 A45.out).mono ?_); (case side1 => repeat (first | (with_reducible first | exact HB.out | apply below_alloc | apply pw_below_drewN | apply below_drew1 | refine below_set ?_ GE263.out) | exact HB.out)); (case side2 => exact Kd.R_tight rfl HO_0.out); rintro e w48 ⟨v290, rfl, ho0, hb, hkp⟩; refine ⟨_, rfl, ?_⟩; have n0_ := Aside0.mk (Kd.R_mono (ok' := fun k_ => (P0_ k_ ∨ w.heap.size ≤ k_)) (Kd.R_keptB ((Kd.R_apart' HO_15.out (Kd.R_typed HO_0.out) (by decide))) hkp (fun k_ hk_ hs_ => (hk_.2) hs_)) (fun k_ hk_ => hk_.1.1)); have n1_ := Aside0.mk (blk_kept (zK BK263.out) hkp (fun hs_ => (fun e_ => (Kd.R_ne HO_0.out BK263.out (by decide)) e_) hs_)); have n2_ := Aside0.mk (Kd.R_mono (ok' := fun k_ => (P0_ k_ ∨ w.heap.size ≤ k_)) ho0 (fun k_ hk_ => Or.elim hk_ (fun hs_ => (HO_0.out.1 k_ (hs_).symm)) (fun hn_ => (.inr (Nat.le_trans (by first | exact HK.out.1 | exact (show Kept w _ (fun k_ => P0_ k_) from by repeat (first | (with_reducible first | exact HK.out | apply Kept.alloc | apply Kept.drewN | apply Kept.drew | refine Kept.setCell ?_ (.inr GW263.out) _) | exact HK.out)).1) hn_))))); have n3_ := Aside0.mk (Kept.then_ (S := (fun k_ => P0_ k_)) (by repeat (first | (with_reducible first | exact HK.out | apply Kept.alloc | apply Kept.drewN | apply Kept.drew | refine Kept.setCell ?_ (.inr GW263.out) _) | exact HK.out)) hkp (fun k_ hs_ => (fun e_ => (HO_0.out.1 k_ e_.symm)) hs_)); have n4_ := Aside0.mk (hb); clear HO_15; clear BK263; clear HK; clear HB; clear HO_0; have HO_15 := n0_; have BK263 := n1_; have HO291 := n2_; have HK := n3_; have HB := n4_; clear n0_ n1_ n2_ n3_ n4_; (try clear hb); (try clear hkp); (try clear ho0)))
              go_roundg k1
              case measure => have := HK1.out; omega
              case rel => exact ⟨(t289), (wrap64 (x17_1 + 1)), (by first | rfl | (simp; done) | (simp [*]; done)), H', ⟨by have := HK1.out; omega⟩, ⟨zR HO291.out⟩, ⟨zR HO_15.out⟩, ⟨zK BK263.out⟩, ⟨by repeat (first | (with_reducible first | exact HK.out | apply Kept.alloc | apply Kept.drewN | apply Kept.drew | refine Kept.setCell ?_ (.inr GW263.out) _) | exact HK.out)⟩, ⟨zC HB.out GE263.out⟩⟩
             ·rw [if_neg c44] at H
              have c44b0 : ((rd t267 x17_1) == 6) = false := beq_eq_false_iff_ne.mpr c44
              have c44b1 : ((rd t267 x17_1) != 6) = true := bne_iff_ne.mpr c44
              by_cases c49 : (rd t267 x17_1) = 7
              ·rw [if_pos c49] at H
               have c49b0 : ((rd t267 x17_1) == 7) = true := beq_iff_eq.mpr c49
               have c49b1 : ((rd t267 x17_1) != 7) = false := bne_eq_false_iff_eq.mpr c49
               clear c49
               replace H := Option.bind_eq_some_iff.mp H
               obtain ⟨t292, A500, H⟩ := H
               replace H : ((code_put.f k1 t292 (IntKind.u64.wrap (a1_7))).bind fun t295 => (code_instBytes.l0 k1 t295 t267 (t267.length : Int) (wrap64 (x17_1 + 1)) a1_0 a1_1 a1_2 a1_3 a1_4 l1_5 a1_6 a1_7)) = some r := H
               have A50 := Aside0.mk A500
               clear A500
               replace H := Option.bind_eq_some_iff.mp H
               obtain ⟨t295, A510, H⟩ := H
               replace H : (code_instBytes.l0 k1 t295 t267 (t267.length : Int) (wrap64 (x17_1 + 1)) a1_0 a1_1 a1_2 a1_3 a1_4 l1_5 a1_6 a1_7) = some r := H
               have A51 := Aside0.mk A510
               clear A510
               have H' := Aside0.mk H
               clear H
               have p270 : 0 ≤ (x17_1 : Int) := of_decide_eq_true zS
               have q270 : x17_1 < (t267.length : Int) := of_decide_eq_true zS
               obtain ⟨ad270, e270, hx270_0⟩ := Kd.at_int (Kd.R_reads' HO_15.out).2.2 x17_1 p270 q270
               cases e270
               replace p270 := eq_true p270
               replace q270 := eq_true q270
               try go_wp2
               have n0_ := Aside0.mk (Kd.R_drew HO_0.out)
               have n1_ := Aside0.mk (Kd.R_drew HO_15.out)
               have n2_ := Aside0.mk (blk_drew BK263.out)
               have n3_ := Aside0.mk (Kept.drew HK.out)
               have n4_ := Aside0.mk (below_drew1 HB.out)
               clear HO_0
               clear HO_15
               clear BK263
               clear HK
               clear HB
               have HO_0 := n0_
               have HO_15 := n1_
               have BK263 := n2_
               have HK := n3_
               have HB := n4_
               clear n0_ n1_ n2_ n3_ n4_
               obtain ⟨Ao53, co53, eo53⟩ := Kd.R_slice HO_0.out
               (first | subst eo53 | (injection eo53 with f1_ f2_ f3_; have f4_ := f1_.symm; have f5_ := f3_.symm; clear f1_ f2_ f3_; subst f4_; subst f5_))
               refine start_ (n := 12) (S := fun w' => w'.cell? ⟨gb263, 0, none⟩ = some (.int .i64 a1_0) ∧ w'.cell? ⟨gb263, 1, none⟩ = some (.int .i64 a1_1) ∧ w'.cell? ⟨gb263, 2, none⟩ = some (.int .i64 a1_2) ∧ w'.cell? ⟨gb263, 3, none⟩ = some (.int .i64 a1_3) ∧ w'.cell? ⟨gb263, 4, none⟩ = some (.int .i64 a1_4) ∧ w'.cell? ⟨gb263, 5, none⟩ = some (.slice A1_5 l1_5.length c1_5) ∧ w'.cell? ⟨gb263, 6, none⟩ = some (.int .i64 a1_6) ∧ w'.cell? ⟨gb263, 7, none⟩ = some (.int .i64 a1_7)) (ds := []) #[false, false, false, false, false, false, false, false, false, false, false, false] (by kernel_rfl) rfl rfl ⟨(blk_cell BK263.out 0).trans rfl, (blk_cell BK263.out 1).trans rfl, (blk_cell BK263.out 2).trans rfl, (blk_cell BK263.out 3).trans rfl, (blk_cell BK263.out 4).trans rfl, (blk_cell BK263.out 5).trans rfl, (blk_cell BK263.out 6).trans rfl, (blk_cell BK263.out 7).trans rfl⟩ (fun hHeld => ?_); refine with_tabW code_instBytes.tab21 code_instBytes.bits21 (fun HT_ HW_ => ?_)
               generalize wr.drew = w52 at HO_0 HO_15 BK263 HK HB hHeld ⊢
               refine pure_ (i := 0) (N := some 82) (v := ?_) (a' := ?_) #[true, false, false, false, false, false, false, false, false, false, false, false] rfl rfl (any_of HT_.out (by kernel_rfl)) (fun _ _ _ h => h) (Or.inl ⟨by rfl, ?_⟩) ?_ ?_
               rotate_left
               ·intro w'
                go_simp
                with_reducible rfl
               rotate_left
               ·simp only [Act.put, List.setIfInBounds_toArray, List.set_cons_zero, List.set_cons_succ, i64_w, i32_w]
                rfl
               refine pure_ (i := 1) (N := some 83) (v := ?_) (a' := ?_) #[true, true, false, false, false, false, false, false, false, false, false, false] rfl rfl (any_of HT_.out (by kernel_rfl)) (fun _ _ _ h => h) (Or.inl ⟨by rfl, ?_⟩) ?_ ?_
               rotate_left
               ·intro w'
                go_simp
                with_reducible rfl
               rotate_left
               ·simp only [Act.put, List.setIfInBounds_toArray, List.set_cons_zero, List.set_cons_succ, i64_w, i32_w]
                rfl
               refine pure_ (i := 2) (N := some 84) (v := ?_) (a' := ?_) #[true, true, true, false, false, false, false, false, false, false, false, false] rfl rfl (any_of HT_.out (by kernel_rfl)) (fun _ _ _ h => h) (Or.inl ⟨by rfl, ?_⟩) ?_ ?_
               rotate_left
               ·intro w'
                go_simp
                with_reducible rfl
               rotate_left
               ·simp only [Act.put, List.setIfInBounds_toArray, List.set_cons_zero, List.set_cons_succ, i64_w, i32_w]
                rfl
               refine pure_ (i := 6) (N := some 88) (v := ?_) (a' := ?_) #[true, true, true, false, false, false, true, false, false, false, false, false] rfl rfl (any_of HT_.out (by kernel_rfl)) (fun _ _ _ h => h) (Or.inl ⟨by rfl, ?_⟩) ?_ ?_
               rotate_left
               ·intro w'
                go_simp
                with_reducible rfl
               rotate_left
               ·simp only [Act.put, List.setIfInBounds_toArray, List.set_cons_zero, List.set_cons_succ, i64_w, i32_w]
                rfl
               refine pure_ (i := 7) (N := some 89) (v := ?_) (a' := ?_) #[true, true, true, false, false, false, true, true, false, false, false, false] rfl rfl (any_of HT_.out (by kernel_rfl)) (fun _ _ _ h => h) (Or.inl ⟨by rfl, ?_⟩) ?_ ?_
               rotate_left
               ·intro w'
                go_simp
                with_reducible rfl
               rotate_left
               ·simp only [Act.put, List.setIfInBounds_toArray, List.set_cons_zero, List.set_cons_succ, i64_w, i32_w]
                rfl
               refine take_ (i := 3) (N := some 85) (v := ?_) (a' := ?_) #[true, true, true, true, false, false, true, true, false, false, false, false] rfl rfl (take_ofW HT_.out HW_.out (by kernel_rfl)) (fun _ _ _ h => h) (Or.inl ⟨by rfl, ?_⟩) hHeld ?_ ?_
               rotate_left
               ·rintro w' ⟨s0, s1, s2, s3, s4, s5, s6, s7⟩
                go_simp
                with_reducible rfl
               rotate_left
               ·simp only [Act.put, List.setIfInBounds_toArray, List.set_cons_zero, List.set_cons_succ, i64_w, i32_w]
                rfl
               refine pure_ (i := 4) (N := some 86) (v := ?_) (a' := ?_) #[true, true, true, true, true, false, true, true, false, false, false, false] rfl rfl (any_of HT_.out (by kernel_rfl)) (fun _ _ _ h => h) (Or.inl ⟨by rfl, ?_⟩) ?_ ?_
               rotate_left
               ·intro w'
                go_simp
                with_reducible rfl
               rotate_left
               ·simp only [Act.put, List.setIfInBounds_toArray, List.set_cons_zero, List.set_cons_succ, i64_w, i32_w]
                rfl
               refine take_ (i := 8) (N := some 90) (v := ?_) (a' := ?_) #[true, true, true, true, true, false, true, true, true, false, false, false] rfl rfl (take_ofW HT_.out HW_.out (by kernel_rfl)) (fun _ _ _ h => h) (Or.inl ⟨by rfl, ?_⟩) hHeld ?_ ?_
               rotate_left
               ·rintro w' ⟨s0, s1, s2, s3, s4, s5, s6, s7⟩
                go_simp
                with_reducible rfl
               rotate_left
               ·simp only [Act.put, List.setIfInBounds_toArray, List.set_cons_zero, List.set_cons_succ, i64_w, i32_w]
                rfl
               refine pure_ (i := 9) (N := some 91) (v := ?_) (a' := ?_) #[true, true, true, true, true, false, true, true, true, true, false, false] rfl rfl (any_of HT_.out (by kernel_rfl)) (fun _ _ _ h => h) (Or.inl ⟨by rfl, ?_⟩) ?_ ?_
               rotate_left
               ·intro w'
                go_simp
                with_reducible rfl
               rotate_left
               ·simp only [Act.put, List.setIfInBounds_toArray, List.set_cons_zero, List.set_cons_succ, i64_w, i32_w]
                rfl
               refine one_ (i := 5) (N := some 87) #[true, true, true, true, true, true, true, true, true, true, false, false] rfl rfl (one_of HT_.out (by kernel_rfl)) (by decide) (fun K hK => ?_)
               refine goes_ Try.func40 (by kernel_rfl) rfl #[.slice Ao53 x0_1.length co53, .int .u64 (IntKind.u64.wrap (a1_6))] (by rfl) rfl rfl zA ?_
               with_reducible refine (code_put.calls k1 (fun k_ => some k_ = (.slice Ao53 x0_1.length co53 : Value).ownBlock) (.slice Ao53 x0_1.length co53) x0_1 (IntKind.u64.wrap (a1_6)) t292 w0 _ ?side1 ?side2 A50.out).mono ?_
               (case side1 => repeat (first | (with_reducible first | exact HB.out | apply below_alloc | apply pw_below_drewN | apply below_drew1 | refine below_set ?_ GE263.out) | exact HB.out))
               (case side2 => exact Kd.R_tight rfl HO_0.out)
               rintro e w54 ⟨v293, rfl, ho0, hb, hkp⟩
               refine ⟨_, rfl, ?_⟩
               have n0_ := Aside0.mk (Kd.R_mono (ok' := fun k_ => (P0_ k_ ∨ w.heap.size ≤ k_)) (Kd.R_keptB ((Kd.R_apart' HO_15.out (Kd.R_typed HO_0.out) (by decide))) hkp (fun k_ hk_ hs_ => (hk_.2) hs_)) (fun k_ hk_ => hk_.1.1))
               have n1_ := Aside0.mk (blk_kept (zK BK263.out) hkp (fun hs_ => (fun e_ => (Kd.R_ne HO_0.out BK263.out (by decide)) e_) hs_))
               have n2_ := Aside0.mk (Kd.R_mono (ok' := fun k_ => (P0_ k_ ∨ w.heap.size ≤ k_)) ho0 (fun k_ hk_ => Or.elim hk_ (fun hs_ => (HO_0.out.1 k_ (hs_).symm)) (fun hn_ => (.inr (Nat.le_trans (by first | exact HK.out.1 | exact (show Kept w _ (fun k_ => P0_ k_) from by repeat (first | (with_reducible first | exact HK.out | apply Kept.alloc | apply Kept.drewN | apply Kept.drew | refine Kept.setCell ?_ (.inr GW263.out) _) | exact HK.out)).1) hn_)))))
               have n3_ := Aside0.mk (Kept.then_ (S := (fun k_ => P0_ k_)) (by repeat (first | (with_reducible first | exact HK.out | apply Kept.alloc | apply Kept.drewN | apply Kept.drew | refine Kept.setCell ?_ (.inr GW263.out) _) | exact HK.out)) hkp (fun k_ hs_ => (fun e_ => (HO_0.out.1 k_ e_.symm)) hs_))
               have n4_ := Aside0.mk (hb)
               clear HO_15
               clear BK263
               clear HK
               clear HB
               clear HO_0
               have HO_15 := n0_
               have BK263 := n1_
               have HO294 := n2_
               have HK := n3_
               have HB := n4_
               clear n0_ n1_ n2_ n3_ n4_
               (try clear hb)
               (try clear hkp)
               (try clear ho0)
               obtain ⟨Ao55, co55, eo55⟩ := Kd.R_slice HO294.out
               (first | subst eo55 | (injection eo55 with f1_ f2_ f3_; have f4_ := f1_.symm; have f5_ := f3_.symm; clear f1_ f2_ f3_; subst f4_; subst f5_))
               refine hK.out _ _ ⟨(blk_cell BK263.out 0).trans rfl, (blk_cell BK263.out 1).trans rfl, (blk_cell BK263.out 2).trans rfl, (blk_cell BK263.out 3).trans rfl, (blk_cell BK263.out 4).trans rfl, (blk_cell BK263.out 5).trans rfl, (blk_cell BK263.out 6).trans rfl, (blk_cell BK263.out 7).trans rfl⟩ (fun hHeld => ?_)
               clear hK K
               refine norm_ (a' := ?_) ?_ ?_
               rotate_left
               ·show Act.put _ (some 87) _ = _
                simp only [Act.put, List.setIfInBounds_toArray, List.set_cons_zero, List.set_cons_succ, i64_w, i32_w]
                rfl
               refine one_ (i := 10) (N := some 92) #[true, true, true, true, true, true, true, true, true, true, true, false] rfl rfl (one_of HT_.out (by kernel_rfl)) (by decide) (fun K hK => ?_)
               refine goes_ Try.func40 (by kernel_rfl) rfl #[.slice Ao55 t292.length co55, .int .u64 (IntKind.u64.wrap (a1_7))] (by rfl) rfl rfl zA ?_
               with_reducible refine (code_put.calls k1 (fun k_ => some k_ = (.slice Ao55 t292.length co55 : Value).ownBlock) (.slice Ao55 t292.length co55) t292 (IntKind.u64.wrap (a1_7)) t295 w0 _ ?side1 ?side2 A51.out).mono ?_
               (case side1 => repeat (first | (with_reducible first | exact HB.out | apply below_alloc | apply pw_below_drewN | apply below_drew1 | refine below_set ?_ GE263.out) | exact HB.out))
               (case side2 => exact Kd.R_tight rfl HO294.out)
               rintro e w56 ⟨v296, rfl, ho0, hb, hkp⟩
               refine ⟨_, rfl, ?_⟩
               have n0_ := Aside0.mk (Kd.R_mono (ok' := fun k_ => (P0_ k_ ∨ w.heap.size ≤ k_)) (Kd.R_keptB ((Kd.R_apart' HO_15.out (Kd.R_typed HO294.out) (by decide))) hkp (fun k_ hk_ hs_ => (hk_.2) hs_)) (fun k_ hk_ => hk_.1.1))
               have n1_ := Aside0.mk (blk_kept (zK BK263.out) hkp (fun hs_ => (fun e_ => (Kd.R_ne HO294.out BK263.out (by decide)) e_) hs_))
               have n2_ := Aside0.mk (Kd.R_mono (ok' := fun k_ => (P0_ k_ ∨ w.heap.size ≤ k_)) ho0 (fun k_ hk_ => Or.elim hk_ (fun hs_ => (HO294.out.1 k_ (hs_).symm)) (fun hn_ => (.inr (Nat.le_trans (by first | exact HK.out.1 | exact (show Kept w _ (fun k_ => P0_ k_) from by repeat (first | (with_reducible first | exact HK.out | apply Kept.alloc | apply Kept.drewN | apply Kept.drew | refine Kept.setCell ?_ (.inr GW263.out) _) | exact HK.out)).1) hn_)))))
               have n3_ := Aside0.mk (Kept.then_ (S := (fun k_ => P0_ k_)) (by repeat (first | (with_reducible first | exact HK.out | apply Kept.alloc | apply Kept.drewN | apply Kept.drew | refine Kept.setCell ?_ (.inr GW263.out) _) | exact HK.out)) hkp (fun k_ hs_ => (fun e_ => (HO294.out.1 k_ e_.symm)) hs_))
               have n4_ := Aside0.mk (hb)
               clear HO_15
               clear BK263
               clear HK
               clear HB
               clear HO294
               have HO_15 := n0_
               have BK263 := n1_
               have HO297 := n2_
               have HK := n3_
               have HB := n4_
               clear n0_ n1_ n2_ n3_ n4_
               (try clear hb)
               (try clear hkp)
               (try clear ho0)
               refine hK.out _ _ ⟨(blk_cell BK263.out 0).trans rfl, (blk_cell BK263.out 1).trans rfl, (blk_cell BK263.out 2).trans rfl, (blk_cell BK263.out 3).trans rfl, (blk_cell BK263.out 4).trans rfl, (blk_cell BK263.out 5).trans rfl, (blk_cell BK263.out 6).trans rfl, (blk_cell BK263.out 7).trans rfl⟩ (fun hHeld => ?_)
               clear hK K
               refine norm_ (a' := ?_) ?_ ?_
               rotate_left
               ·show Act.put _ (some 92) _ = _
                simp only [Act.put, List.setIfInBounds_toArray, List.set_cons_zero, List.set_cons_succ, i64_w, i32_w]
                rfl
               refine pure_ (i := 11) (N := some 0) (v := ?_) (a' := ?_) #[true, true, true, true, true, true, true, true, true, true, true, true] rfl rfl (any_of HT_.out (by kernel_rfl)) (fun _ _ _ h => h) (Or.inl ⟨by rfl, ?_⟩) ?_ ?_
               rotate_left
               ·intro w'
                go_simp
                with_reducible rfl
               rotate_left
               ·simp only [Act.put, List.setIfInBounds_toArray, List.set_cons_zero, List.set_cons_succ, i64_w, i32_w]
                rfl
               refine done_ (done_of HT_.out (by kernel_rfl)) ?_
               try go_wp2
               go_roundg k1
               case measure => have := HK1.out; omega
               case rel => exact ⟨(t295), (wrap64 (x17_1 + 1)), (by first | rfl | (simp; done) | (simp [*]; done)), H', ⟨by have := HK1.out; omega⟩, ⟨zR HO297.out⟩, ⟨zR HO_15.out⟩, ⟨zK BK263.out⟩, ⟨by repeat (first | (with_reducible first | exact HK.out | apply Kept.alloc | apply Kept.drewN | apply Kept.drew | refine Kept.setCell ?_ (.inr GW263.out) _) | exact HK.out)⟩, ⟨zC HB.out GE263.out⟩⟩
              ·rw [if_neg c49] at H
               have c49b0 : ((rd t267 x17_1) == 7) = false := beq_eq_false_iff_ne.mpr c49
               have c49b1 : ((rd t267 x17_1) != 7) = true := bne_iff_ne.mpr c49
               have H' := Aside0.mk H
               clear H
               have p270 : 0 ≤ (x17_1 : Int) := of_decide_eq_true zS
               have q270 : x17_1 < (t267.length : Int) := of_decide_eq_true zS
               obtain ⟨ad270, e270, hx270_0⟩ := Kd.at_int (Kd.R_reads' HO_15.out).2.2 x17_1 p270 q270
               cases e270
               replace p270 := eq_true p270
               replace q270 := eq_true q270
               go_wp2
               go_roundg k1
               case measure => have := HK1.out; omega
               case rel => exact ⟨(x0_1), (wrap64 (x17_1 + 1)), (by first | rfl | (simp; done) | (simp [*]; done)), H', ⟨by have := HK1.out; omega⟩, ⟨zR HO_0.out⟩, ⟨zR HO_15.out⟩, ⟨zK BK263.out⟩, ⟨by repeat (first | (with_reducible first | exact HK.out | apply Kept.alloc | apply Kept.drewN | apply Kept.drew | refine Kept.setCell ?_ (.inr GW263.out) _) | exact HK.out)⟩, ⟨zC HB.out GE263.out⟩⟩
      ·rw [if_neg c13] at H
       exact absurd H (by simp)
     ·rw [if_neg c12] at H
      exact absurd H (by simp)
    ·rw [if_neg c11] at H
     have c11b0 : decide (x17_1 < (t267.length : Int)) = false := decide_eq_false c11
     clear c11
     obtain rfl := Option.some.inj H
     go_wp2
     go_ret
     exact ⟨_, zF, zR HO_0.out, zC HB.out GE263.out, by repeat (first | (with_reducible first | exact HK.out | apply Kept.alloc | apply Kept.drewN | apply Kept.drew | refine Kept.setCell ?_ (.inr GW263.out) _) | exact HK.out)⟩
 ·rw [if_neg c3] at H
  exact absurd H (by simp)

end Go.Proofs.Ytpjehipemljkpaa.PCo
