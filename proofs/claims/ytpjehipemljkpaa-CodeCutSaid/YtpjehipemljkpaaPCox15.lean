-- PRINTED by a turned copy of the kit's print (patch_print.py); not typed by hand. Lean checks it.
import Derived.Test.YtpjehipemljkpaaPCox0
import Derived.Test.YtpjehipemljkpaaPCox2
import Derived.Test.YtpjehipemljkpaaPCox4
import Derived.Test.YtpjehipemljkpaaPCox7
import Derived.Test.YtpjehipemljkpaaPCox9
import Derived.Test.YtpjehipemljkpaaPCox10
import Derived.Test.YtpjehipemljkpaaPCox11
import Derived.Test.YtpjehipemljkpaaPCox14
import Derived.Test.YtpjehipemljkpaaWJoin
import Derived.Test.YtpjehipemljkpaaWTwo
import Derived.Test.YtpjehipemljkpaaZip
namespace Go.Proofs.Ytpjehipemljkpaa.PCo
open Go.RowKit Go.Proofs.YtpjehipemljkpaaW.PrintWords Go.Proofs.YtpjehipemljkpaaW.PrintLast Go.Proofs.YtpjehipemljkpaaW.PrintMore Go.Proofs.Ytpjehipemljkpaa.Zip
attribute [local go_sem] max2_int min2_int max_two min_two max_three min_three max_four min_four   -- for this text's walks alone
set_option linter.unusedVariables false
set_option linter.unusedSimpArgs false

/-! ### turntablelaw33_CodeBack: function 4 -/
mutual
def turntablelaw33_CodeBack.j0 : Nat → List (S47) → List Int → Bool → Option (Bool)
 | 0, _, _, _ => none
 | k + 1, x0, x1, x16 => if x16 = true then ((turntablelaw33_works.f k).bind fun t397 => (some t397)) else ((turntableref33_Check.f k x0).bind fun bt398 => (if bt398.1 = 0 then ((code_Bytes.f k x0).bind fun t400 => ((code_Read.f k t400).bind fun bt403 => (if bt403.2.1 = 0 then ((turntableref32_Same.f k x0 bt403.1).bind fun t409 => (if t409 = true then (turntablelaw33_CodeBack.j1 k x1) else (none))) else (none)))) else (turntablelaw33_CodeBack.j1 k x1)))
def turntablelaw33_CodeBack.j1 : Nat → List Int → Option (Bool)
 | 0, _ => none
 | k + 1, x1 => (code_Read.f k x1).bind fun bt410 => (if bt410.2.1 = 0 then ((code_Check.f k bt410.1).bind fun bt416 => (if bt416.1 = 0 then ((code_Bytes.f k bt410.1).bind fun t418 => (if (strOfNums t418).toList = (strOfNums x1).toList then ((turntablelaw33_works.f k).bind fun t421 => (some t421)) else (none))) else (none))) else (if (bt410.1.length : Int) = 0 then (if bt410.2.2 ≥ 0 then ((turntablelaw33_works.f k).bind fun t422 => (some t422)) else (none)) else (none)))
end
def turntablelaw33_CodeBack.f (k : Nat) (l0 : List (S47)) (l1 : List Int) : Option (Bool) := (turntablelaw33_light.f k l0).bind fun t396 => (if t396 = true then (turntablelaw33_CodeBack.j0 k l0 l1 (decide ((l1.length : Int) > 800))) else (turntablelaw33_CodeBack.j0 k l0 l1 true))
theorem turntablelaw33_CodeBack.mono_l : ∀ k, (∀ y0 y1 y2, LeO (turntablelaw33_CodeBack.j0 k y0 y1 y2) (turntablelaw33_CodeBack.j0 (k + 1) y0 y1 y2)) ∧ (∀ y0, LeO (turntablelaw33_CodeBack.j1 k y0) (turntablelaw33_CodeBack.j1 (k + 1) y0))
 | 0 => ⟨fun _ _ _ r h => by simp [turntablelaw33_CodeBack.j0] at h, fun _ r h => by simp [turntablelaw33_CodeBack.j1] at h⟩
 | k + 1 => by
  obtain ⟨ih0, ih1⟩ := turntablelaw33_CodeBack.mono_l k
  refine ⟨?_, ?_⟩
  ·intro y0 y1 y2
   unfold turntablelaw33_CodeBack.j0
   repeat' first
   | (with_reducible exact ih0 _ _ _)
   | (with_reducible exact ih1 _)
   | (with_reducible exact code_Bytes.mono _ _)
   | (with_reducible exact code_Check.mono _ _)
   | (with_reducible exact code_Read.mono _ _)
   | (with_reducible exact turntablelaw33_light.mono _ _)
   | (with_reducible exact turntablelaw33_works.mono _)
   | (with_reducible exact turntableref32_Same.mono _ _ _)
   | (with_reducible exact turntableref33_Check.mono _ _)
   | (with_reducible exact LeO.refl _)
   | (with_reducible exact LeO.none _)
   | (with_reducible refine LeO.ite ?_ ?_)
   | (with_reducible refine LeO.bind ?_ (fun _ => ?_))
   | exact ih0 _ _ _
   | exact ih1 _
   | exact code_Bytes.mono _ _
   | exact code_Check.mono _ _
   | exact code_Read.mono _ _
   | exact turntablelaw33_light.mono _ _
   | exact turntablelaw33_works.mono _
   | exact turntableref32_Same.mono _ _ _
   | exact turntableref33_Check.mono _ _
   | exact LeO.none _
   | refine LeO.ite ?_ ?_
   | refine LeO.bind ?_ (fun _ => ?_)
  ·intro y0
   unfold turntablelaw33_CodeBack.j1
   repeat' first
   | (with_reducible exact ih0 _ _ _)
   | (with_reducible exact ih1 _)
   | (with_reducible exact code_Bytes.mono _ _)
   | (with_reducible exact code_Check.mono _ _)
   | (with_reducible exact code_Read.mono _ _)
   | (with_reducible exact turntablelaw33_light.mono _ _)
   | (with_reducible exact turntablelaw33_works.mono _)
   | (with_reducible exact turntableref32_Same.mono _ _ _)
   | (with_reducible exact turntableref33_Check.mono _ _)
   | (with_reducible exact LeO.refl _)
   | (with_reducible exact LeO.none _)
   | (with_reducible refine LeO.ite ?_ ?_)
   | (with_reducible refine LeO.bind ?_ (fun _ => ?_))
   | exact ih0 _ _ _
   | exact ih1 _
   | exact code_Bytes.mono _ _
   | exact code_Check.mono _ _
   | exact code_Read.mono _ _
   | exact turntablelaw33_light.mono _ _
   | exact turntablelaw33_works.mono _
   | exact turntableref32_Same.mono _ _ _
   | exact turntableref33_Check.mono _ _
   | exact LeO.none _
   | refine LeO.ite ?_ ?_
   | refine LeO.bind ?_ (fun _ => ?_)
theorem turntablelaw33_CodeBack.mono : ∀ a0 a1 k, LeO (turntablelaw33_CodeBack.f k a0 a1) (turntablelaw33_CodeBack.f (k + 1) a0 a1) := by
 intro a0 a1 k
 obtain ⟨ih0, ih1⟩ := turntablelaw33_CodeBack.mono_l k
 unfold turntablelaw33_CodeBack.f
 repeat' first
   | (with_reducible exact ih0 _ _ _)
   | (with_reducible exact ih1 _)
   | (with_reducible exact code_Bytes.mono _ _)
   | (with_reducible exact code_Check.mono _ _)
   | (with_reducible exact code_Read.mono _ _)
   | (with_reducible exact turntablelaw33_light.mono _ _)
   | (with_reducible exact turntablelaw33_works.mono _)
   | (with_reducible exact turntableref32_Same.mono _ _ _)
   | (with_reducible exact turntableref33_Check.mono _ _)
   | (with_reducible exact LeO.refl _)
   | (with_reducible exact LeO.none _)
   | (with_reducible refine LeO.ite ?_ ?_)
   | (with_reducible refine LeO.bind ?_ (fun _ => ?_))
   | exact ih0 _ _ _
   | exact ih1 _
   | exact code_Bytes.mono _ _
   | exact code_Check.mono _ _
   | exact code_Read.mono _ _
   | exact turntablelaw33_light.mono _ _
   | exact turntablelaw33_works.mono _
   | exact turntableref32_Same.mono _ _ _
   | exact turntableref33_Check.mono _ _
   | exact LeO.none _
   | refine LeO.ite ?_ ?_
   | refine LeO.bind ?_ (fun _ => ?_)
def turntablelaw33_CodeBack.T10 : Bool × List (List Nat × List Nat) := (true, [([], []), ([0], [0]), ([1], [1]), ([2], [2]), ([3, 1], [3]), ([4], [4]), ([5, 4, 4], [4, 5]), ([6, 4], [4, 6]), ([4], [4]), ([8, 4], [4, 8]), ([7, 9, 4], [4, 7, 9]), ([4, 10], [4, 10]), ([11, 6], [11]), ([12, 12], [12]), ([12, 13], [12, 13]), ([14, 13, 0, 1, 2, 3, 4, 5, 6, 7, 8, 9, 10, 11, 12, 13, 14], [14])])
def turntablelaw33_CodeBack.B10 : List Nat := [0, 1, 3, 7, 15, 31, 63, 127, 31, 287, 1023, 2047, 4095, 8191, 16383, 32767]
theorem turntablelaw33_CodeBack.tab10 : rtab .any (opsOf Try.f4 10) = turntablelaw33_CodeBack.T10 := by kernel_rfl
theorem turntablelaw33_CodeBack.bits10 : waitsOk turntablelaw33_CodeBack.T10.2 turntablelaw33_CodeBack.B10 = true := by kernel_rfl
set_option maxHeartbeats 8000000 in
set_option maxRecDepth 100000 in
theorem turntablelaw33_CodeBack.calls (k : Nat) (A0 : Option Addr) (c0 : Nat) (l0 : List (S47)) (A1 : Option Addr) (c1 : Nat) (l1 : List Int) (r : Bool) (w : World) (hr0 : Kd.C k47 w A0 l0.length l0) (hc0 : l0.length ≤ c0) (hr1 : Kd.C (Kd.int .u8) w A1 l1.length l1) (hc1 : l1.length ≤ c1) (h : turntablelaw33_CodeBack.f k l0 l1 = some r) :
  Calls Try.prog 4 #[.slice A0 l0.length c0, .slice A1 l1.length c1] w fun e w' => e = .returned (.bool r) ∧ Below w.heap.size w w' := by
 have hu27 := Try.underlying27
 have hfl27_0 : ∀ (u0 u1 : Value) (W : World), (Instr.field 27 (.agg #[u0, u1]) 0).run Try.prog W = .ok (u0) W := fun _ _ _ => by show _ = _; kernel_rfl
 have HR0 := Aside0.mk hr0
 have HC0 := Aside0.mk hc0
 clear hr0 hc0
 have HR1 := Aside0.mk hr1
 have HC1 := Aside0.mk hc1
 clear hr1 hc1
 have HB := Aside0.mk (Below.refl w.heap.size w)
 have H : ((turntablelaw33_light.f k l0).bind fun t396 => (if t396 = true then (turntablelaw33_CodeBack.j0 k l0 l1 (decide ((l1.length : Int) > 800))) else (turntablelaw33_CodeBack.j0 k l0 l1 true))) = some r := h
 clear h
 have HC3 := Aside0.mk H
 clear H
 go_enter Try.func4, Try.ntmps4
 go_upto_region 1 with (fail)
 go_cut [16] (fun v16 wc => ∃ (kq : Nat) (x16_2 : Bool), v16 = .bool x16_2 ∧ Aside0 (turntablelaw33_CodeBack.j0 kq l0 l1 x16_2 = some r) ∧ Aside0 (kq ≤ k) ∧ Aside0 (Below w.heap.size w wc))
 case first =>
  have H := HC3.out
  clear HC3
  replace H := Option.bind_eq_some_iff.mp H
  obtain ⟨t396, A40, H⟩ := H
  replace H : (if t396 = true then (turntablelaw33_CodeBack.j0 k l0 l1 (decide ((l1.length : Int) > 800))) else (turntablelaw33_CodeBack.j0 k l0 l1 true)) = some r := H
  have A4 := Aside0.mk A40
  clear A40
  by_cases c5 : t396 = true
  ·subst c5
   have H1 : (turntablelaw33_CodeBack.j0 k l0 l1 (decide ((l1.length : Int) > 800))) = some r := by rw [if_pos rfl] at H; exact H
   clear H
   have H := H1
   clear H1
   have H' := Aside0.mk H
   clear H
   go_wp2_with (first | ((with_reducible refine gate_callee (f := 11) rfl ?_); refine goesL_ (some 10) rfl rfl Try.func11 (by kernel_rfl) rfl #[.slice A0 l0.length c0] rfl zA ?_; (with_reducible refine (turntablelaw33_light.calls k _ _ l0 true _ ?side1 ?side2 A4.out).mono ?_); (case side1 => repeat (first | exact (Kd.C_below HR0.out HB.out) | (with_reducible refine Kd.C_alloc ?_ _) | (with_reducible refine Kd.C_drewN ?_ _) | (with_reducible refine Kd.C_drew ?_))); (case side2 => exact HC0.out); rintro e w' ⟨rfl, ⟨nd, rfl⟩⟩; refine ⟨_, rfl, ?_⟩))
   go_meet
   case rel => exact ⟨_, (decide ((l1.length : Int) > 800)), (by first | rfl | (simp; done) | (simp [*]; done)), H', ⟨by first | omega | exact Nat.le_refl _⟩, ⟨zB HB.out⟩⟩
  ·replace c5 := Bool.eq_false_iff.mpr c5
   subst c5
   have H1 : (turntablelaw33_CodeBack.j0 k l0 l1 true) = some r := by rw [if_neg (show ¬ (false = true) by decide)] at H; exact H
   clear H
   have H := H1
   clear H1
   have H' := Aside0.mk H
   clear H
   go_wp2_with (first | ((with_reducible refine gate_callee (f := 11) rfl ?_); refine goesL_ (some 10) rfl rfl Try.func11 (by kernel_rfl) rfl #[.slice A0 l0.length c0] rfl zA ?_; (with_reducible refine (turntablelaw33_light.calls k _ _ l0 false _ ?side1 ?side2 A4.out).mono ?_); (case side1 => repeat (first | exact (Kd.C_below HR0.out HB.out) | (with_reducible refine Kd.C_alloc ?_ _) | (with_reducible refine Kd.C_drewN ?_ _) | (with_reducible refine Kd.C_drew ?_))); (case side2 => exact HC0.out); rintro e w' ⟨rfl, ⟨nd, rfl⟩⟩; refine ⟨_, rfl, ?_⟩))
   go_meet
   case rel => exact ⟨_, (true), (by first | rfl | (simp; done) | (simp [*]; done)), H', ⟨by first | omega | exact Nat.le_refl _⟩, ⟨zB HB.out⟩⟩
 case rest =>
  clear HC3
  try clear c1
  try clear p2
  try clear c4
  try clear c5
  obtain ⟨kq, x16_2, rfl, HA, HJ2, HB⟩ := hcut
  cases kq with
  | zero => exact absurd HA.out (by simp [turntablelaw33_CodeBack.j0])
  | succ kj2 =>
   have H := HA.out
   clear HA
   simp only [turntablelaw33_CodeBack.j0] at H
   by_cases c6 : x16_2 = true
   ·subst c6
    have H1 : ((turntablelaw33_works.f kj2).bind fun t397 => (some t397)) = some r := by rw [if_pos rfl] at H; exact H
    clear H
    have H := H1
    clear H1
    replace H := Option.bind_eq_some_iff.mp H
    obtain ⟨t397, A70, H⟩ := H
    replace H : (some t397) = some r := H
    have A7 := Aside0.mk A70
    clear A70
    obtain rfl := Option.some.inj H
    go_wp2_with (first | ((with_reducible refine gate_callee (f := 12) rfl ?_); refine goesL_ (some 17) rfl rfl Try.func12 (by kernel_rfl) rfl #[] rfl zA ?_; (with_reducible refine (turntablelaw33_works.calls kj2  t397 _ A7.out).mono ?_); rintro e w8 ⟨rfl, hb⟩; refine ⟨_, rfl, ?_⟩; have n0_ := Aside0.mk (below_step (zB HB.out) hb); clear HB; have HB := n0_; clear n0_; (try clear hb); (try clear hb2); (try clear hk); (try clear hi)))
    go_ret
    exact ⟨zF, zB HB.out⟩
   ·replace c6 := Bool.eq_false_iff.mpr c6
    subst c6
    have H1 : ((turntableref33_Check.f kj2 l0).bind fun bt398 => (if bt398.1 = 0 then ((code_Bytes.f kj2 l0).bind fun t400 => ((code_Read.f kj2 t400).bind fun bt403 => (if bt403.2.1 = 0 then ((turntableref32_Same.f kj2 l0 bt403.1).bind fun t409 => (if t409 = true then (turntablelaw33_CodeBack.j1 kj2 l1) else (none))) else (none)))) else (turntablelaw33_CodeBack.j1 kj2 l1))) = some r := by rw [if_neg (show ¬ (false = true) by decide)] at H; exact H
    clear H
    have H := H1
    clear H1
    replace H := Option.bind_eq_some_iff.mp H
    obtain ⟨⟨t398, t399⟩, A90, H⟩ := H
    replace H : (if t398 = 0 then ((code_Bytes.f kj2 l0).bind fun t400 => ((code_Read.f kj2 t400).bind fun bt403 => (if bt403.2.1 = 0 then ((turntableref32_Same.f kj2 l0 bt403.1).bind fun t409 => (if t409 = true then (turntablelaw33_CodeBack.j1 kj2 l1) else (none))) else (none)))) else (turntablelaw33_CodeBack.j1 kj2 l1)) = some r := H
    have A9 := Aside0.mk A90
    clear A90
    have HC10 := Aside0.mk H
    clear H
    go_upto_if 21 with (first | ((with_reducible refine gate_callee (f := 14) rfl ?_); refine goesL_ (some 19) rfl rfl Try.func14 (by kernel_rfl) rfl #[.slice A0 l0.length c0] rfl zA ?_; (with_reducible refine (turntableref33_Check.calls kj2 _ _ l0 t398 t399 _ ?side1 ?side2 A9.out).mono ?_); (case side1 => repeat (first | exact (Kd.C_below HR0.out HB.out) | (with_reducible refine Kd.C_alloc ?_ _) | (with_reducible refine Kd.C_drewN ?_ _) | (with_reducible refine Kd.C_drew ?_))); (case side2 => exact HC0.out); rintro e w11 ⟨rfl, hb⟩; refine ⟨_, rfl, ?_⟩; have n0_ := Aside0.mk (below_step (zB HB.out) hb); clear HB; have HB := n0_; clear n0_; (try clear hb); (try clear hb2); (try clear hk); (try clear hi)))
    (try simp only [Act.put, List.setIfInBounds_toArray, List.set_cons_zero, List.set_cons_succ])
    go_cut [] (fun wc => ∃ (kq : Nat), Aside0 (turntablelaw33_CodeBack.j1 kq l1 = some r) ∧ Aside0 (kq ≤ kj2) ∧ Aside0 (Below w.heap.size w wc))
    case first =>
     have H := HC10.out
     clear HC10
     by_cases c12 : t398 = 0
     ·rw [if_pos c12] at H
      have c12b0 : (t398 == 0) = true := beq_iff_eq.mpr c12
      have c12b1 : (t398 != 0) = false := bne_eq_false_iff_eq.mpr c12
      clear c12
      (first | rw [c12b0] | (simp only [i64_w, i32_w]; rw [c12b0]) | skip)
      replace H := Option.bind_eq_some_iff.mp H
      obtain ⟨t400, A130, H⟩ := H
      replace H : ((code_Read.f kj2 t400).bind fun bt403 => (if bt403.2.1 = 0 then ((turntableref32_Same.f kj2 l0 bt403.1).bind fun t409 => (if t409 = true then (turntablelaw33_CodeBack.j1 kj2 l1) else (none))) else (none))) = some r := H
      have A13 := Aside0.mk A130
      clear A130
      replace H := Option.bind_eq_some_iff.mp H
      obtain ⟨⟨t403, t406, t407⟩, A140, H⟩ := H
      replace H : (if t406 = 0 then ((turntableref32_Same.f kj2 l0 t403).bind fun t409 => (if t409 = true then (turntablelaw33_CodeBack.j1 kj2 l1) else (none))) else (none)) = some r := H
      have A14 := Aside0.mk A140
      clear A140
      by_cases c15 : t406 = 0
      ·rw [if_pos c15] at H
       have c15b0 : (t406 == 0) = true := beq_iff_eq.mpr c15
       have c15b1 : (t406 != 0) = false := bne_eq_false_iff_eq.mpr c15
       clear c15
       replace H := Option.bind_eq_some_iff.mp H
       obtain ⟨t409, A160, H⟩ := H
       replace H : (if t409 = true then (turntablelaw33_CodeBack.j1 kj2 l1) else (none)) = some r := H
       have A16 := Aside0.mk A160
       clear A160
       by_cases c17 : t409 = true
       ·subst c17
        have H1 : (turntablelaw33_CodeBack.j1 kj2 l1) = some r := by rw [if_pos rfl] at H; exact H
        clear H
        have H := H1
        clear H1
        have H' := Aside0.mk H
        clear H
        go_wp2_with (first | ((with_reducible refine gate_callee (f := 16) rfl ?_); refine goesL_ (some 24) rfl rfl Try.func16 (by kernel_rfl) rfl #[.slice A0 l0.length c0] rfl zA ?_; (with_reducible refine (code_Bytes.calls kj2 _ _ l0 t400 _ ?side1 ?side2 A13.out).mono ?_); (case side1 => repeat (first | exact (Kd.C_below HR0.out HB.out) | (with_reducible refine Kd.C_alloc ?_ _) | (with_reducible refine Kd.C_drewN ?_ _) | (with_reducible refine Kd.C_drew ?_))); (case side2 => exact HC0.out); rintro e w18 ⟨v401, rfl, ho0, hb⟩; refine ⟨_, rfl, ?_⟩; have n0_ := Aside0.mk (Kd.R_lower ho0 (below_size (zB HB.out))); have n1_ := Aside0.mk (below_step (zB HB.out) hb); clear HB; have HO402 := n0_; have HB := n1_; clear n0_ n1_; (try clear hb); (try clear hb2); (try clear hk); (try clear hi); (try clear ho0); obtain ⟨Ao19, co19, eo19⟩ := Kd.R_slice HO402.out; subst eo19) | ((with_reducible refine gate_callee (f := 15) rfl ?_); refine goesL_ (some 25) rfl rfl Try.func15 (by kernel_rfl) rfl #[.slice Ao19 t400.length co19] rfl zA ?_; (with_reducible refine (code_Read.calls kj2 _ _ t400 t403 t406 t407 _ ?side1 ?side2 A14.out).mono ?_); (case side1 => repeat (first | exact (Kd.R_reads' HO402.out).2.2 | (with_reducible refine Kd.C_alloc ?_ _) | (with_reducible refine Kd.C_drewN ?_ _) | (with_reducible refine Kd.C_drew ?_))); (case side2 => exact (Kd.R_reads' HO402.out).2.1); rintro e w20 ⟨v404, rfl, ho0, hb⟩; refine ⟨_, rfl, ?_⟩; have n0_ := Aside0.mk (Kd.R_below (zR HO402.out) hb); have n1_ := Aside0.mk (Kd.R_lower ho0 (below_size (zB HB.out))); have n2_ := Aside0.mk (below_step (zB HB.out) hb); clear HO402; clear HB; have HO402 := n0_; have HO405 := n1_; have HB := n2_; clear n0_ n1_ n2_; (try clear hb); (try clear hb2); (try clear hk); (try clear hi); (try clear ho0)) | ((with_reducible refine gate_dst (N := 6) rfl ?_); (try (refine gate_guard (by rfl) ?_; dsimp only)); refine box_event ?hg (N := 6) ?hd (cs := #[.int .i64 0, .int .i64 0]) (t := 27) ?hr ?_; (case hd => rfl); (case hg => rfl); (case hr => first | (go_simp; done) | (go_simp; rfl)); intro gb408 hg w21 hbox hb; have n0_ := Aside0.mk (Kd.R_below (zR HO402.out) hb); have n1_ := Aside0.mk (Kd.R_below (zR HO405.out) hb); have n2_ := Aside0.mk (below_step (zB HB.out) hb); have n3_ := Aside0.mk (hbox); have n4_ := Aside0.mk ((by rw [hg]; exact (below_size (zB HB.out)) : w.heap.size ≤ gb408)); have n5_ := Aside0.mk ((by rw [hg]; exact (below_size (zB HB.out)) : w.heap.size ≤ gb408)); clear HO402; clear HO405; clear HB; have HO402 := n0_; have HO405 := n1_; have HB := n2_; have BK408 := n3_; have GW408 := n4_; have GE408 := n5_; clear n0_ n1_ n2_ n3_ n4_ n5_; clear hb hbox hg; have hcz22_0 : w21.cell? ⟨gb408, 0, none⟩ = some (.int .i64 0) := (blk_cell BK408.out 0).trans rfl; have hcz22_1 : w21.cell? ⟨gb408, 1, none⟩ = some (.int .i64 0) := (blk_cell BK408.out 1).trans rfl; have hfz22_0 := blk_frozen BK408.out 0; have hfz22_1 := blk_frozen BK408.out 1; obtain ⟨Ao23, co23, eo23⟩ := Kd.R_slice HO405.out; subst eo23) | (go_at_call 17; (with_reducible refine (turntableref32_Same.calls kj2 _ _ l0 _ _ t403 true _ ?side1 ?side2 ?side3 ?side4 A16.out).mono ?_); (case side1 => exact Kd.C_below HR0.out (zC HB.out GE408.out)); (case side2 => exact HC0.out); (case side3 => refine (Kd.R_reads' (e := 47) (base := w.heap.size) (ok := fun k_ => True) (n := t403.length) (c := co23) ?_).2.2; exact (zR (Kd.R_mono (Kd.R_far (p := ⟨gb408, 1, none⟩) (Kd.R_far (p := ⟨gb408, 0, none⟩) (Kd.R_types HO405.out BK408.out (by decide)) (fun _ hk => hk.2) (.int .i64 t406)) (fun _ hk => hk.2) (.int .i64 t407)) (fun _ h_ => h_.1)))); (case side4 => exact (Kd.R_reads' HO405.out).2.1); rintro e w24 ⟨rfl, hb⟩; have n0_ := Aside0.mk (Kd.R_below (zR (Kd.R_mono (Kd.R_far (p := ⟨gb408, 1, none⟩) (Kd.R_far (p := ⟨gb408, 0, none⟩) (Kd.R_types HO402.out BK408.out (by decide)) (fun _ hk => hk.2) (.int .i64 t406)) (fun _ hk => hk.2) (.int .i64 t407)) (fun _ h_ => h_.1))) hb); have n1_ := Aside0.mk (Kd.R_below (zR (Kd.R_mono (Kd.R_far (p := ⟨gb408, 1, none⟩) (Kd.R_far (p := ⟨gb408, 0, none⟩) (Kd.R_types HO405.out BK408.out (by decide)) (fun _ hk => hk.2) (.int .i64 t406)) (fun _ hk => hk.2) (.int .i64 t407)) (fun _ h_ => h_.1))) hb); have n2_ := Aside0.mk (blk_below (g := gb408) (o := .cells #[.int .i64 t406, .int .i64 t407] 27 (0, 0)) (by (with_reducible repeat (first | refine blk_drewN ?_ _ | refine blk_drew ?_ | refine blk_alloc ?_ _)); refine blk_put (cs := #[.int .i64 t406, .int .i64 0]) ?_ 1 _ rfl; (with_reducible repeat (first | refine blk_drewN ?_ _ | refine blk_drew ?_ | refine blk_alloc ?_ _)); refine blk_put (cs := #[.int .i64 0, .int .i64 0]) ?_ 0 _ rfl; (with_reducible repeat (first | refine blk_drewN ?_ _ | refine blk_drew ?_ | refine blk_alloc ?_ _)); exact BK408.out) hb); have n3_ := Aside0.mk (below_step (zC HB.out GE408.out) hb); clear HO402; clear HO405; clear BK408; clear HB; have HO402 := n0_; have HO405 := n1_; have BK408 := n2_; have HB := n3_; clear n0_ n1_ n2_ n3_; (try clear hb); (try clear hb2); (try clear hk); (try clear hi)))
        go_meet
        case rel => exact ⟨_, H', ⟨by have := HJ2.out; first | omega | exact Nat.le_refl _⟩, ⟨zC HB.out GE408.out⟩⟩
       ·replace c17 := Bool.eq_false_iff.mpr c17
        subst c17
        have H1 : (none) = some r := by rw [if_neg (show ¬ (false = true) by decide)] at H; exact H
        clear H
        have H := H1
        clear H1
        exact absurd H (by simp)
      ·rw [if_neg c15] at H
       exact absurd H (by simp)
     ·rw [if_neg c12] at H
      have c12b0 : (t398 == 0) = false := beq_eq_false_iff_ne.mpr c12
      have c12b1 : (t398 != 0) = true := bne_iff_ne.mpr c12
      (first | rw [c12b0] | (simp only [i64_w, i32_w]; rw [c12b0]) | skip)
      have H' := Aside0.mk H
      clear H
      go_wp2
      go_meet
      case rel => exact ⟨_, H', ⟨by have := HJ2.out; first | omega | exact Nat.le_refl _⟩, ⟨zB HB.out⟩⟩
    case rest =>
     clear HC10
     try clear c1
     try clear p2
     try clear c4
     try clear c5
     try clear c6
     try clear c11
     try clear c12
     try clear c12b0
     try clear c12b1
     try clear c14
     try clear c15
     try clear c15b0
     try clear c15b1
     try clear c16
     try clear c17
     try clear hcz22_0
     try clear hcz22_1
     try clear hfz22_0
     try clear hfz22_1
     try clear p2
     obtain ⟨kq, HA, HJ9, HB⟩ := hcut
     cases kq with
     | zero => exact absurd HA.out (by simp [turntablelaw33_CodeBack.j1])
     | succ kj9 =>
      have H := HA.out
      clear HA
      simp only [turntablelaw33_CodeBack.j1] at H
      replace H := Option.bind_eq_some_iff.mp H
      obtain ⟨⟨t410, t413, t414⟩, A250, H⟩ := H
      replace H : (if t413 = 0 then ((code_Check.f kj9 t410).bind fun bt416 => (if bt416.1 = 0 then ((code_Bytes.f kj9 t410).bind fun t418 => (if (strOfNums t418).toList = (strOfNums l1).toList then ((turntablelaw33_works.f kj9).bind fun t421 => (some t421)) else (none))) else (none))) else (if (t410.length : Int) = 0 then (if t414 ≥ 0 then ((turntablelaw33_works.f kj9).bind fun t422 => (some t422)) else (none)) else (none))) = some r := H
      have A25 := Aside0.mk A250
      clear A250
      by_cases c26 : t413 = 0
      ·rw [if_pos c26] at H
       have c26b0 : (t413 == 0) = true := beq_iff_eq.mpr c26
       have c26b1 : (t413 != 0) = false := bne_eq_false_iff_eq.mpr c26
       clear c26
       replace H := Option.bind_eq_some_iff.mp H
       obtain ⟨⟨t416, t417⟩, A270, H⟩ := H
       replace H : (if t416 = 0 then ((code_Bytes.f kj9 t410).bind fun t418 => (if (strOfNums t418).toList = (strOfNums l1).toList then ((turntablelaw33_works.f kj9).bind fun t421 => (some t421)) else (none))) else (none)) = some r := H
       have A27 := Aside0.mk A270
       clear A270
       by_cases c28 : t416 = 0
       ·rw [if_pos c28] at H
        have c28b0 : (t416 == 0) = true := beq_iff_eq.mpr c28
        have c28b1 : (t416 != 0) = false := bne_eq_false_iff_eq.mpr c28
        clear c28
        replace H := Option.bind_eq_some_iff.mp H
        obtain ⟨t418, A290, H⟩ := H
        replace H : (if (strOfNums t418).toList = (strOfNums l1).toList then ((turntablelaw33_works.f kj9).bind fun t421 => (some t421)) else (none)) = some r := H
        have A29 := Aside0.mk A290
        clear A290
        by_cases c30 : (strOfNums t418).toList = (strOfNums l1).toList
        ·rw [if_pos c30] at H
         have c30b0 : ((strOfNums t418).toList == (strOfNums l1).toList) = true := beq_iff_eq.mpr c30
         have c30b1 : ((strOfNums t418).toList != (strOfNums l1).toList) = false := bne_eq_false_iff_eq.mpr c30
         clear c30
         replace H := Option.bind_eq_some_iff.mp H
         obtain ⟨t421, A310, H⟩ := H
         replace H : (some t421) = some r := H
         have A31 := Aside0.mk A310
         clear A310
         obtain rfl := Option.some.inj H
         try go_wp2_with (first | ((with_reducible refine gate_callee (f := 15) rfl ?_); refine goesL_ (some 39) rfl rfl Try.func15 (by kernel_rfl) rfl #[.slice A1 l1.length c1] rfl zA ?_; (with_reducible refine (code_Read.calls kj9 _ _ l1 t410 t413 t414 _ ?side1 ?side2 A25.out).mono ?_); (case side1 => repeat (first | exact (Kd.C_below HR1.out HB.out) | (with_reducible refine Kd.C_alloc ?_ _) | (with_reducible refine Kd.C_drewN ?_ _) | (with_reducible refine Kd.C_drew ?_))); (case side2 => exact HC1.out); rintro e w32 ⟨v411, rfl, ho0, hb⟩; refine ⟨_, rfl, ?_⟩; have n0_ := Aside0.mk (Kd.R_lower ho0 (below_size (zB HB.out))); have n1_ := Aside0.mk (below_step (zB HB.out) hb); clear HB; have HO412 := n0_; have HB := n1_; clear n0_ n1_; (try clear hb); (try clear hb2); (try clear hk); (try clear hi); (try clear ho0)) | ((with_reducible refine gate_dst (N := 8) rfl ?_); (try (refine gate_guard (by rfl) ?_; dsimp only)); refine box_event ?hg (N := 8) ?hd (cs := #[.int .i64 0, .int .i64 0]) (t := 27) ?hr ?_; (case hd => rfl); (case hg => rfl); (case hr => first | (go_simp; done) | (go_simp; rfl)); intro gb415 hg w33 hbox hb; have n0_ := Aside0.mk (Kd.R_below (zR HO412.out) hb); have n1_ := Aside0.mk (below_step (zB HB.out) hb); have n2_ := Aside0.mk (hbox); have n3_ := Aside0.mk ((by rw [hg]; exact (below_size (zB HB.out)) : w.heap.size ≤ gb415)); have n4_ := Aside0.mk ((by rw [hg]; exact (below_size (zB HB.out)) : w.heap.size ≤ gb415)); clear HO412; clear HB; have HO412 := n0_; have HB := n1_; have BK415 := n2_; have GW415 := n3_; have GE415 := n4_; clear n0_ n1_ n2_ n3_ n4_; clear hb hbox hg; have hcz34_0 : w33.cell? ⟨gb415, 0, none⟩ = some (.int .i64 0) := (blk_cell BK415.out 0).trans rfl; have hcz34_1 : w33.cell? ⟨gb415, 1, none⟩ = some (.int .i64 0) := (blk_cell BK415.out 1).trans rfl; have hfz34_0 := blk_frozen BK415.out 0; have hfz34_1 := blk_frozen BK415.out 1; obtain ⟨Ao35, co35, eo35⟩ := Kd.R_slice HO412.out; subst eo35))
         have n0_ : Aside0 (Kd.R k47 47 ((w33.setCell ⟨gb415, 0, none⟩ (.int .i64 t413)).setCell ⟨gb415, 1, none⟩ (.int .i64 t414)) w.heap.size (fun _ => True) (.slice Ao35 t410.length co35) t410) := ⟨by (with_reducible repeat (first | apply Kd.R_alloc | apply Kd.R_drewN | apply Kd.R_drew)); exact Kd.R_mono (Kd.R_far (p := ⟨gb415, 1, none⟩) (Kd.R_far (p := ⟨gb415, 0, none⟩) (Kd.R_types HO412.out BK415.out (by decide)) (fun _ hk => hk.2) (.int .i64 t413)) (fun _ hk => hk.2) (.int .i64 t414)) (fun _ hk => trivial)⟩
         have n1_ : Aside0 (((w33.setCell ⟨gb415, 0, none⟩ (.int .i64 t413)).setCell ⟨gb415, 1, none⟩ (.int .i64 t414)).heap[gb415]? = some (.cells #[.int .i64 t413, .int .i64 t414] 27 (0, 0))) := ⟨by (with_reducible repeat (first | refine blk_drewN ?_ _ | refine blk_drew ?_ | refine blk_alloc ?_ _)); refine blk_put (cs := #[.int .i64 t413, .int .i64 0]) ?_ 1 _ rfl; (with_reducible repeat (first | refine blk_drewN ?_ _ | refine blk_drew ?_ | refine blk_alloc ?_ _)); refine blk_put (cs := #[.int .i64 0, .int .i64 0]) ?_ 0 _ rfl; (with_reducible repeat (first | refine blk_drewN ?_ _ | refine blk_drew ?_ | refine blk_alloc ?_ _)); exact BK415.out⟩
         have n2_ : Aside0 (Below w.heap.size w ((w33.setCell ⟨gb415, 0, none⟩ (.int .i64 t413)).setCell ⟨gb415, 1, none⟩ (.int .i64 t414))) := ⟨zC HB.out GE415.out⟩
         (try clear HO412)
         (try clear BK415)
         (try clear HB)
         generalize ((w33.setCell ⟨gb415, 0, none⟩ (.int .i64 t413)).setCell ⟨gb415, 1, none⟩ (.int .i64 t414)) = w36 at n0_ n1_ n2_ ⊢
         have HO412 := n0_
         have BK415 := n1_
         have HB := n2_
         clear n0_ n1_ n2_
         have n0_ := Aside0.mk (Kd.R_drew HO412.out)
         have n1_ := Aside0.mk (blk_drew BK415.out)
         have n2_ := Aside0.mk (below_drew1 HB.out)
         clear HO412
         clear BK415
         clear HB
         have HO412 := n0_
         have BK415 := n1_
         have HB := n2_
         clear n0_ n1_ n2_
         refine start_ (n := 16) (S := fun w' => True) (ds := []) #[false, false, false, false, false, false, false, false, false, false, false, false, false, false, false, false] (by kernel_rfl) rfl rfl trivial (fun hHeld => ?_); refine with_tabW turntablelaw33_CodeBack.tab10 turntablelaw33_CodeBack.bits10 (fun HT_ HW_ => ?_)
         generalize w36.drew = w37 at HO412 BK415 HB hHeld ⊢
         refine pure_ (i := 0) (N := some 56) (v := ?_) (a' := ?_) #[true, false, false, false, false, false, false, false, false, false, false, false, false, false, false, false] rfl rfl (any_of HT_.out (by kernel_rfl)) (fun _ _ _ h => h) (Or.inl ⟨by rfl, ?_⟩) ?_ ?_
         rotate_left
         ·intro w'
          go_simp
          with_reducible rfl
         rotate_left
         ·simp only [Act.put, List.setIfInBounds_toArray, List.set_cons_zero, List.set_cons_succ, i64_w, i32_w]
          rfl
         refine one_ (i := 1) (N := some 57) #[true, true, false, false, false, false, false, false, false, false, false, false, false, false, false, false] rfl rfl (one_of HT_.out (by kernel_rfl)) (by decide) (fun K hK => ?_)
         refine goes_ Try.func13 (by kernel_rfl) rfl #[.slice Ao35 t410.length co35] (by rfl) rfl rfl zA ?_
         with_reducible refine (code_Check.calls kj9 _ _ t410 t416 t417 _ ?side1 ?side2 A27.out).mono ?_
         (case side1 => repeat (first | exact (Kd.R_reads' HO412.out).2.2 | (with_reducible refine Kd.C_alloc ?_ _) | (with_reducible refine Kd.C_drewN ?_ _) | (with_reducible refine Kd.C_drew ?_)))
         (case side2 => exact (Kd.R_reads' HO412.out).2.1)
         rintro e w38 ⟨rfl, hb⟩
         refine ⟨_, rfl, ?_⟩
         have n0_ := Aside0.mk (Kd.R_below (zR HO412.out) hb)
         have n1_ := Aside0.mk (blk_below (g := gb415) (o := .cells #[.int .i64 t413, .int .i64 t414] 27 (0, 0)) (zK BK415.out) hb)
         have n2_ := Aside0.mk (below_step (zC HB.out GE415.out) hb)
         clear HO412
         clear BK415
         clear HB
         have HO412 := n0_
         have BK415 := n1_
         have HB := n2_
         clear n0_ n1_ n2_
         (try clear hb)
         (try clear hb2)
         (try clear hk)
         (try clear hi)
         refine hK.out _ _ trivial (fun hHeld => ?_)
         clear hK K
         refine norm_ (a' := ?_) ?_ ?_
         rotate_left
         ·show Act.put _ (some 57) _ = _
          simp only [Act.put, List.setIfInBounds_toArray, List.set_cons_zero, List.set_cons_succ, i64_w, i32_w]
          rfl
         refine pure_ (i := 2) (N := some 58) (v := ?_) (a' := ?_) #[true, true, true, false, false, false, false, false, false, false, false, false, false, false, false, false] rfl rfl (any_of HT_.out (by kernel_rfl)) (fun _ _ _ h => h) (Or.inl ⟨by rfl, ?_⟩) ?_ ?_
         rotate_left
         ·intro w'
          go_simp
          with_reducible rfl
         rotate_left
         ·simp only [Act.put, List.setIfInBounds_toArray, List.set_cons_zero, List.set_cons_succ, i64_w, i32_w]
          rfl
         refine pure_ (i := 3) (N := some 59) (v := ?_) (a' := ?_) #[true, true, true, true, false, false, false, false, false, false, false, false, false, false, false, false] rfl rfl (any_of HT_.out (by kernel_rfl)) (fun _ _ _ h => h) (Or.inl ⟨by rfl, ?_⟩) ?_ ?_
         rotate_left
         ·intro w'
          go_simp
          with_reducible rfl
         rotate_left
         ·simp only [Act.put, List.setIfInBounds_toArray, List.set_cons_zero, List.set_cons_succ, i64_w, i32_w]
          rfl
         refine pure_ (i := 4) (N := some 60) (v := ?_) (a' := ?_) #[true, true, true, true, true, false, false, false, false, false, false, false, false, false, false, false] rfl rfl (any_of HT_.out (by kernel_rfl)) (fun _ _ _ h => h) (Or.inl ⟨by rfl, ?_⟩) ?_ ?_
         rotate_left
         ·intro w'
          go_simp
          with_reducible rfl
         rotate_left
         ·simp only [Act.put, List.setIfInBounds_toArray, List.set_cons_zero, List.set_cons_succ, i64_w, i32_w]
          rfl
         refine pure_ (i := 5) (N := some 61) (v := ?_) (a' := ?_) #[true, true, true, true, true, true, false, false, false, false, false, false, false, false, false, false] rfl rfl (any_of HT_.out (by kernel_rfl)) (fun _ _ _ h => h) (Or.inl ⟨by rfl, ?_⟩) ?_ ?_
         rotate_left
         ·intro w'
          go_simp
          with_reducible rfl
         rotate_left
         ·simp only [Act.put, List.setIfInBounds_toArray, List.set_cons_zero, List.set_cons_succ, i64_w, i32_w]
          rfl
         refine pure_ (i := 8) (N := some 64) (v := ?_) (a' := ?_) #[true, true, true, true, true, true, false, false, true, false, false, false, false, false, false, false] rfl rfl (any_of HT_.out (by kernel_rfl)) (fun _ _ _ h => h) (Or.inl ⟨by rfl, ?_⟩) ?_ ?_
         rotate_left
         ·intro w'
          go_simp
          with_reducible rfl
         rotate_left
         ·simp only [Act.put, List.setIfInBounds_toArray, List.set_cons_zero, List.set_cons_succ, i64_w, i32_w]
          rfl
         refine join_ (σ := Value) 6 #[true, true, true, true, true, true, true, true, true, true, false, false, false, false, false, false] (fun s_ => [(62, s_), (63, .string (strOfNums t418)), (65, .string (strOfNums l1))]) (fun s_ w' => (Kd.R k47 47 w' w.heap.size (fun _ => True) (.slice Ao35 t410.length co35) t410) ∧ (Kd.R (Kd.int .u8) 5 w' w.heap.size (fun _ => True) s_ t418) ∧ (w'.heap[gb415]? = some (.cells #[.int .i64 t413, .int .i64 t414] 27 (0, 0))) ∧ (Below w.heap.size w w')) ?_ ?_
         rotate_left
         ·intro hCont
          refine two_ (i := 6) (j := 9) (Ni := some 62) (Nj := some 65) #[true, true, true, true, true, true, true, false, true, false, false, false, false, false, false, false] #[true, true, true, true, true, true, false, false, true, true, false, false, false, false, false, false] rfl rfl rfl rfl (two_of HT_.out (by kernel_rfl)) (by decide) (by decide) (fun K hK => ?_) (fun K hK => ?_)
          ·skip
           refine goes_ Try.func16 (by kernel_rfl) rfl #[.slice Ao35 t410.length co35] (by rfl) rfl rfl zA ?_
           with_reducible refine (code_Bytes.calls kj9 _ _ t410 t418 _ ?side1 ?side2 A29.out).mono ?_
           (case side1 => repeat (first | exact (Kd.R_reads' HO412.out).2.2 | (with_reducible refine Kd.C_alloc ?_ _) | (with_reducible refine Kd.C_drewN ?_ _) | (with_reducible refine Kd.C_drew ?_)))
           (case side2 => exact (Kd.R_reads' HO412.out).2.1)
           rintro e w39 ⟨v419, rfl, ho0, hb⟩
           refine ⟨_, rfl, ?_⟩
           have n0_ := Aside0.mk (Kd.R_below (zR HO412.out) hb)
           have n1_ := Aside0.mk (Kd.R_lower ho0 (below_size (zC HB.out GE415.out)))
           have n2_ := Aside0.mk (blk_below (g := gb415) (o := .cells #[.int .i64 t413, .int .i64 t414] 27 (0, 0)) (zK BK415.out) hb)
           have n3_ := Aside0.mk (below_step (zC HB.out GE415.out) hb)
           clear HO412
           clear BK415
           clear HB
           have HO412 := n0_
           have HO420 := n1_
           have BK415 := n2_
           have HB := n3_
           clear n0_ n1_ n2_ n3_
           (try clear hb)
           (try clear hb2)
           (try clear hk)
           (try clear hi)
           (try clear ho0)
           refine hK.out _ _ trivial (fun hHeld => ?_)
           clear hK K
           refine norm_ (a' := ?_) ?_ ?_
           rotate_left
           ·show Act.put _ (some 62) _ = _
            simp only [Act.put, List.setIfInBounds_toArray, List.set_cons_zero, List.set_cons_succ, i64_w, i32_w]
            rfl
           refine two_ (i := 7) (j := 9) (Ni := some 63) (Nj := some 65) #[true, true, true, true, true, true, true, true, true, false, false, false, false, false, false, false] #[true, true, true, true, true, true, true, false, true, true, false, false, false, false, false, false] rfl rfl rfl rfl (two_of HT_.out (by kernel_rfl)) (by decide) (by decide) (fun K hK => ?_) (fun K hK => ?_)
           ·skip
            have hcv40 := own_string (P := Try.prog) Try.underlying29 Try.underlying5 Try.underlying9 (Kd.own_of_R HO420.out)
            refine value_ (w1 := ?_) (v := ?_) (by rfl) rfl ?_ ?_
            rotate_left 2
            ·go_simp
             constructor
             ·rfl
             ·rfl
            clear hcv40
            refine hK.out _ _ trivial (fun hHeld => ?_)
            clear hK K
            refine norm_ (a' := ?_) ?_ ?_
            rotate_left
            ·show Act.put _ (some 63) _ = _
             simp only [Act.put, List.setIfInBounds_toArray, List.set_cons_zero, List.set_cons_succ, i64_w, i32_w]
             rfl
            refine one_ (i := 9) (N := some 65) #[true, true, true, true, true, true, true, true, true, true, false, false, false, false, false, false] rfl rfl (one_of HT_.out (by kernel_rfl)) (by decide) (fun K hK => ?_)
            have hcv41 := Kd.C_string (P := Try.prog) (A := A1) (c := c1) Try.underlying29 Try.underlying5 Try.underlying9 (Kd.C_below HR1.out HB.out)
            refine value_ (w1 := ?_) (v := ?_) (by rfl) rfl ?_ ?_
            rotate_left 2
            ·go_simp
             constructor
             ·rfl
             ·rfl
            clear hcv41
            refine hK.out _ _ trivial (fun hHeld => ?_)
            clear hK K
            refine norm_ (a' := ?_) ?_ ?_
            rotate_left
            ·show Act.put _ (some 65) _ = _
             simp only [Act.put, List.setIfInBounds_toArray, List.set_cons_zero, List.set_cons_succ, i64_w, i32_w]
             rfl
            exact norm_ (by simp only [putAll, Act.put, List.setIfInBounds_toArray, List.set_cons_zero, List.set_cons_succ]) (hCont (v419) _ ⟨(zR HO412.out), (zR HO420.out), (zK BK415.out), (zC HB.out GE415.out)⟩)
           ·skip
            have hcv40 := Kd.C_string (P := Try.prog) (A := A1) (c := c1) Try.underlying29 Try.underlying5 Try.underlying9 (Kd.C_below HR1.out HB.out)
            refine value_ (w1 := ?_) (v := ?_) (by rfl) rfl ?_ ?_
            rotate_left 2
            ·go_simp
             constructor
             ·rfl
             ·rfl
            clear hcv40
            refine hK.out _ _ trivial (fun hHeld => ?_)
            clear hK K
            refine norm_ (a' := ?_) ?_ ?_
            rotate_left
            ·show Act.put _ (some 65) _ = _
             simp only [Act.put, List.setIfInBounds_toArray, List.set_cons_zero, List.set_cons_succ, i64_w, i32_w]
             rfl
            refine one_ (i := 7) (N := some 63) #[true, true, true, true, true, true, true, true, true, true, false, false, false, false, false, false] rfl rfl (one_of HT_.out (by kernel_rfl)) (by decide) (fun K hK => ?_)
            have hcv41 := own_string (P := Try.prog) Try.underlying29 Try.underlying5 Try.underlying9 (Kd.own_of_R HO420.out)
            refine value_ (w1 := ?_) (v := ?_) (by rfl) rfl ?_ ?_
            rotate_left 2
            ·go_simp
             constructor
             ·rfl
             ·rfl
            clear hcv41
            refine hK.out _ _ trivial (fun hHeld => ?_)
            clear hK K
            refine norm_ (a' := ?_) ?_ ?_
            rotate_left
            ·show Act.put _ (some 63) _ = _
             simp only [Act.put, List.setIfInBounds_toArray, List.set_cons_zero, List.set_cons_succ, i64_w, i32_w]
             rfl
            exact norm_ (by simp only [putAll, Act.put, List.setIfInBounds_toArray, List.set_cons_zero, List.set_cons_succ]) (hCont (v419) _ ⟨(zR HO412.out), (zR HO420.out), (zK BK415.out), (zC HB.out GE415.out)⟩)
          ·skip
           have hcv39 := Kd.C_string (P := Try.prog) (A := A1) (c := c1) Try.underlying29 Try.underlying5 Try.underlying9 (Kd.C_below HR1.out HB.out)
           refine value_ (w1 := ?_) (v := ?_) (by rfl) rfl ?_ ?_
           rotate_left 2
           ·go_simp
            constructor
            ·rfl
            ·rfl
           clear hcv39
           refine hK.out _ _ trivial (fun hHeld => ?_)
           clear hK K
           refine norm_ (a' := ?_) ?_ ?_
           rotate_left
           ·show Act.put _ (some 65) _ = _
            simp only [Act.put, List.setIfInBounds_toArray, List.set_cons_zero, List.set_cons_succ, i64_w, i32_w]
            rfl
           refine one_ (i := 6) (N := some 62) #[true, true, true, true, true, true, true, false, true, true, false, false, false, false, false, false] rfl rfl (one_of HT_.out (by kernel_rfl)) (by decide) (fun K hK => ?_)
           refine goes_ Try.func16 (by kernel_rfl) rfl #[.slice Ao35 t410.length co35] (by rfl) rfl rfl zA ?_
           with_reducible refine (code_Bytes.calls kj9 _ _ t410 t418 _ ?side1 ?side2 A29.out).mono ?_
           (case side1 => repeat (first | exact (Kd.R_reads' HO412.out).2.2 | (with_reducible refine Kd.C_alloc ?_ _) | (with_reducible refine Kd.C_drewN ?_ _) | (with_reducible refine Kd.C_drew ?_)))
           (case side2 => exact (Kd.R_reads' HO412.out).2.1)
           rintro e w40 ⟨v419, rfl, ho0, hb⟩
           refine ⟨_, rfl, ?_⟩
           have n0_ := Aside0.mk (Kd.R_below (zR HO412.out) hb)
           have n1_ := Aside0.mk (Kd.R_lower ho0 (below_size (zC HB.out GE415.out)))
           have n2_ := Aside0.mk (blk_below (g := gb415) (o := .cells #[.int .i64 t413, .int .i64 t414] 27 (0, 0)) (zK BK415.out) hb)
           have n3_ := Aside0.mk (below_step (zC HB.out GE415.out) hb)
           clear HO412
           clear BK415
           clear HB
           have HO412 := n0_
           have HO420 := n1_
           have BK415 := n2_
           have HB := n3_
           clear n0_ n1_ n2_ n3_
           (try clear hb)
           (try clear hb2)
           (try clear hk)
           (try clear hi)
           (try clear ho0)
           refine hK.out _ _ trivial (fun hHeld => ?_)
           clear hK K
           refine norm_ (a' := ?_) ?_ ?_
           rotate_left
           ·show Act.put _ (some 62) _ = _
            simp only [Act.put, List.setIfInBounds_toArray, List.set_cons_zero, List.set_cons_succ, i64_w, i32_w]
            rfl
           refine one_ (i := 7) (N := some 63) #[true, true, true, true, true, true, true, true, true, true, false, false, false, false, false, false] rfl rfl (one_of HT_.out (by kernel_rfl)) (by decide) (fun K hK => ?_)
           have hcv41 := own_string (P := Try.prog) Try.underlying29 Try.underlying5 Try.underlying9 (Kd.own_of_R HO420.out)
           refine value_ (w1 := ?_) (v := ?_) (by rfl) rfl ?_ ?_
           rotate_left 2
           ·go_simp
            constructor
            ·rfl
            ·rfl
           clear hcv41
           refine hK.out _ _ trivial (fun hHeld => ?_)
           clear hK K
           refine norm_ (a' := ?_) ?_ ?_
           rotate_left
           ·show Act.put _ (some 63) _ = _
            simp only [Act.put, List.setIfInBounds_toArray, List.set_cons_zero, List.set_cons_succ, i64_w, i32_w]
            rfl
           exact norm_ (by simp only [putAll, Act.put, List.setIfInBounds_toArray, List.set_cons_zero, List.set_cons_succ]) (hCont (v419) _ ⟨(zR HO412.out), (zR HO420.out), (zK BK415.out), (zC HB.out GE415.out)⟩)
         rintro v419 w42 ⟨h0_, h1_, h2_, h3_⟩
         have n0_ : Aside0 (Kd.R k47 47 w42 w.heap.size (fun _ => True) (.slice Ao35 t410.length co35) t410) := ⟨h0_⟩
         have n1_ : Aside0 (Kd.R (Kd.int .u8) 5 w42 w.heap.size (fun _ => True) v419 t418) := ⟨h1_⟩
         have n2_ : Aside0 (w42.heap[gb415]? = some (.cells #[.int .i64 t413, .int .i64 t414] 27 (0, 0))) := ⟨h2_⟩
         have n3_ : Aside0 (Below w.heap.size w w42) := ⟨h3_⟩
         clear HO412
         clear BK415
         clear HB
         clear h0_ h1_ h2_ h3_
         have HO412 := n0_
         have HO420 := n1_
         have BK415 := n2_
         have HB := n3_
         clear n0_ n1_ n2_ n3_
         have hHeld := trivial
         refine norm_ (a' := ?_) ?_ ?_
         rotate_left
         ·simp only [putAll, Act.put, List.setIfInBounds_toArray, List.set_cons_zero, List.set_cons_succ]
          rfl
         refine pure_ (i := 10) (N := some 66) (v := ?_) (a' := ?_) #[true, true, true, true, true, true, true, true, true, true, true, false, false, false, false, false] rfl rfl (any_of HT_.out (by kernel_rfl)) (fun _ _ _ h => h) (Or.inl ⟨by rfl, ?_⟩) ?_ ?_
         rotate_left
         ·intro w'
          go_simp
          with_reducible rfl
         rotate_left
         ·simp only [Act.put, List.setIfInBounds_toArray, List.set_cons_zero, List.set_cons_succ, i64_w, i32_w]
          rfl
         refine pure_ (i := 11) (N := some 67) (v := ?_) (a' := ?_) #[true, true, true, true, true, true, true, true, true, true, true, true, false, false, false, false] rfl rfl (any_of HT_.out (by kernel_rfl)) (fun _ _ _ h => h) (Or.inl ⟨by rfl, ?_⟩) ?_ ?_
         rotate_left
         ·intro w'
          go_simp
          with_reducible rfl
         rotate_left
         ·simp only [Act.put, List.setIfInBounds_toArray, List.set_cons_zero, List.set_cons_succ, i64_w, i32_w]
          rfl
         refine pure_ (i := 12) (N := some 68) (v := ?_) (a' := ?_) #[true, true, true, true, true, true, true, true, true, true, true, true, true, false, false, false] rfl rfl (any_of HT_.out (by kernel_rfl)) (fun _ _ _ h => h) (Or.inl ⟨by rfl, ?_⟩) ?_ ?_
         rotate_left
         ·intro w'
          go_simp
          with_reducible rfl
         rotate_left
         ·simp only [Act.put, List.setIfInBounds_toArray, List.set_cons_zero, List.set_cons_succ, i64_w, i32_w]
          rfl
         refine one_ (i := 13) (N := some 69) #[true, true, true, true, true, true, true, true, true, true, true, true, true, true, false, false] rfl rfl (one_of HT_.out (by kernel_rfl)) (by decide) (fun K hK => ?_)
         refine goes_ Try.func12 (by kernel_rfl) rfl #[] (by rfl) rfl rfl zA ?_
         with_reducible refine (turntablelaw33_works.calls kj9  t421 _ A31.out).mono ?_
         rintro e w43 ⟨rfl, hb⟩
         refine ⟨_, rfl, ?_⟩
         have n0_ := Aside0.mk (Kd.R_below (zR HO412.out) hb)
         have n1_ := Aside0.mk (Kd.R_below (zR HO420.out) hb)
         have n2_ := Aside0.mk (blk_below (g := gb415) (o := .cells #[.int .i64 t413, .int .i64 t414] 27 (0, 0)) (zK BK415.out) hb)
         have n3_ := Aside0.mk (below_step (zC HB.out GE415.out) hb)
         clear HO412
         clear HO420
         clear BK415
         clear HB
         have HO412 := n0_
         have HO420 := n1_
         have BK415 := n2_
         have HB := n3_
         clear n0_ n1_ n2_ n3_
         (try clear hb)
         (try clear hb2)
         (try clear hk)
         (try clear hi)
         refine hK.out _ _ trivial (fun hHeld => ?_)
         clear hK K
         refine norm_ (a' := ?_) ?_ ?_
         rotate_left
         ·show Act.put _ (some 69) _ = _
          simp only [Act.put, List.setIfInBounds_toArray, List.set_cons_zero, List.set_cons_succ, i64_w, i32_w]
          rfl
         refine pure_ (i := 14) (N := some 70) (v := ?_) (a' := ?_) #[true, true, true, true, true, true, true, true, true, true, true, true, true, true, true, false] rfl rfl (any_of HT_.out (by kernel_rfl)) (fun _ _ _ h => h) (Or.inl ⟨by rfl, ?_⟩) ?_ ?_
         rotate_left
         ·intro w'
          go_simp
          with_reducible rfl
         rotate_left
         ·simp only [Act.put, List.setIfInBounds_toArray, List.set_cons_zero, List.set_cons_succ, i64_w, i32_w]
          rfl
         refine pure_ (i := 15) (N := some 4) (v := ?_) (a' := ?_) #[true, true, true, true, true, true, true, true, true, true, true, true, true, true, true, true] rfl rfl (any_of HT_.out (by kernel_rfl)) (fun _ _ _ h => h) (Or.inl ⟨by rfl, ?_⟩) ?_ ?_
         rotate_left
         ·intro w'
          go_simp
          with_reducible rfl
         rotate_left
         ·simp only [Act.put, List.setIfInBounds_toArray, List.set_cons_zero, List.set_cons_succ, i64_w, i32_w]
          rfl
         refine done_ (done_of HT_.out (by kernel_rfl)) ?_
         try go_wp2
         go_ret
         exact ⟨zF, zC HB.out GE415.out⟩
        ·rw [if_neg c30] at H
         have c30b0 : ((strOfNums t418).toList == (strOfNums l1).toList) = false := beq_eq_false_iff_ne.mpr c30
         have c30b1 : ((strOfNums t418).toList != (strOfNums l1).toList) = true := bne_iff_ne.mpr c30
         exact absurd H (by simp)
       ·rw [if_neg c28] at H
        have c28b0 : (t416 == 0) = false := beq_eq_false_iff_ne.mpr c28
        have c28b1 : (t416 != 0) = true := bne_iff_ne.mpr c28
        exact absurd H (by simp)
      ·rw [if_neg c26] at H
       have c26b0 : (t413 == 0) = false := beq_eq_false_iff_ne.mpr c26
       have c26b1 : (t413 != 0) = true := bne_iff_ne.mpr c26
       by_cases c44 : (t410.length : Int) = 0
       ·rw [if_pos c44] at H
        have c44b0 : ((t410.length : Int) == 0) = true := beq_iff_eq.mpr c44
        have c44b1 : ((t410.length : Int) != 0) = false := bne_eq_false_iff_eq.mpr c44
        clear c44
        by_cases c45 : t414 ≥ 0
        ·rw [if_pos c45] at H
         have c45b0 : decide (0 ≤ t414) = true := decide_eq_true c45
         clear c45
         replace H := Option.bind_eq_some_iff.mp H
         obtain ⟨t422, A460, H⟩ := H
         replace H : (some t422) = some r := H
         have A46 := Aside0.mk A460
         clear A460
         obtain rfl := Option.some.inj H
         go_wp2_with (first | ((with_reducible refine gate_callee (f := 15) rfl ?_); refine goesL_ (some 39) rfl rfl Try.func15 (by kernel_rfl) rfl #[.slice A1 l1.length c1] rfl zA ?_; (with_reducible refine (code_Read.calls kj9 _ _ l1 t410 t413 t414 _ ?side1 ?side2 A25.out).mono ?_); (case side1 => repeat (first | exact (Kd.C_below HR1.out HB.out) | (with_reducible refine Kd.C_alloc ?_ _) | (with_reducible refine Kd.C_drewN ?_ _) | (with_reducible refine Kd.C_drew ?_))); (case side2 => exact HC1.out); rintro e w47 ⟨v411, rfl, ho0, hb⟩; refine ⟨_, rfl, ?_⟩; have n0_ := Aside0.mk (Kd.R_lower ho0 (below_size (zB HB.out))); have n1_ := Aside0.mk (below_step (zB HB.out) hb); clear HB; have HO412 := n0_; have HB := n1_; clear n0_ n1_; (try clear hb); (try clear hb2); (try clear hk); (try clear hi); (try clear ho0)) | ((with_reducible refine gate_dst (N := 8) rfl ?_); (try (refine gate_guard (by rfl) ?_; dsimp only)); refine box_event ?hg (N := 8) ?hd (cs := #[.int .i64 0, .int .i64 0]) (t := 27) ?hr ?_; (case hd => rfl); (case hg => rfl); (case hr => first | (go_simp; done) | (go_simp; rfl)); intro gb415 hg w48 hbox hb; have n0_ := Aside0.mk (Kd.R_below (zR HO412.out) hb); have n1_ := Aside0.mk (below_step (zB HB.out) hb); have n2_ := Aside0.mk (hbox); have n3_ := Aside0.mk ((by rw [hg]; exact (below_size (zB HB.out)) : w.heap.size ≤ gb415)); have n4_ := Aside0.mk ((by rw [hg]; exact (below_size (zB HB.out)) : w.heap.size ≤ gb415)); clear HO412; clear HB; have HO412 := n0_; have HB := n1_; have BK415 := n2_; have GW415 := n3_; have GE415 := n4_; clear n0_ n1_ n2_ n3_ n4_; clear hb hbox hg; have hcz49_0 : w48.cell? ⟨gb415, 0, none⟩ = some (.int .i64 0) := (blk_cell BK415.out 0).trans rfl; have hcz49_1 : w48.cell? ⟨gb415, 1, none⟩ = some (.int .i64 0) := (blk_cell BK415.out 1).trans rfl; have hfz49_0 := blk_frozen BK415.out 0; have hfz49_1 := blk_frozen BK415.out 1; obtain ⟨Ao50, co50, eo50⟩ := Kd.R_slice HO412.out; subst eo50) | (go_at_call 12; (with_reducible refine (turntablelaw33_works.calls kj9  t422 _ A46.out).mono ?_); rintro e w51 ⟨rfl, hb⟩; have n0_ := Aside0.mk (Kd.R_below (zR (Kd.R_mono (Kd.R_far (p := ⟨gb415, 1, none⟩) (Kd.R_far (p := ⟨gb415, 0, none⟩) (Kd.R_types HO412.out BK415.out (by decide)) (fun _ hk => hk.2) (.int .i64 t413)) (fun _ hk => hk.2) (.int .i64 t414)) (fun _ h_ => h_.1))) hb); have n1_ := Aside0.mk (blk_below (g := gb415) (o := .cells #[.int .i64 t413, .int .i64 t414] 27 (0, 0)) (by (with_reducible repeat (first | refine blk_drewN ?_ _ | refine blk_drew ?_ | refine blk_alloc ?_ _)); refine blk_put (cs := #[.int .i64 t413, .int .i64 0]) ?_ 1 _ rfl; (with_reducible repeat (first | refine blk_drewN ?_ _ | refine blk_drew ?_ | refine blk_alloc ?_ _)); refine blk_put (cs := #[.int .i64 0, .int .i64 0]) ?_ 0 _ rfl; (with_reducible repeat (first | refine blk_drewN ?_ _ | refine blk_drew ?_ | refine blk_alloc ?_ _)); exact BK415.out) hb); have n2_ := Aside0.mk (below_step (zC HB.out GE415.out) hb); clear HO412; clear BK415; clear HB; have HO412 := n0_; have BK415 := n1_; have HB := n2_; clear n0_ n1_ n2_; (try clear hb); (try clear hb2); (try clear hk); (try clear hi)))
         go_ret
         exact ⟨zF, zC HB.out GE415.out⟩
        ·rw [if_neg c45] at H
         exact absurd H (by simp)
       ·rw [if_neg c44] at H
        exact absurd H (by simp)

/-! ### turntablelaw33_CodeCut: function 6 -/
def turntablelaw33_CodeCut.f (k : Nat) (l0 : List (S47)) (a1 : Int) : Option (Bool) := (turntablelaw33_light.f k l0).bind fun t423 => (if t423 = true then ((turntableref33_Check.f k l0).bind fun bt424 => (if bt424.1 = 0 then ((code_Bytes.f k l0).bind fun t426 => (if (t426.length : Int) = 0 then (none) else (if 0 ≤ (Int.tmod (wrap64 (a1)) (t426.length : Int)) then (if (Int.tmod (wrap64 (a1)) (t426.length : Int)) ≤ (t426.length : Int) then ((code_Read.f k (t426.take ((Int.tmod (wrap64 (a1)) (t426.length : Int)) : Int).toNat)).bind fun bt433 => (if bt433.2.1 = 0 then (none) else ((turntablelaw33_works.f k).bind fun t439 => (some t439)))) else (none)) else (none)))) else ((turntablelaw33_works.f k).bind fun t440 => (some t440)))) else ((turntablelaw33_works.f k).bind fun t441 => (some t441)))
theorem turntablelaw33_CodeCut.mono : ∀ a0 a1 k, LeO (turntablelaw33_CodeCut.f k a0 a1) (turntablelaw33_CodeCut.f (k + 1) a0 a1) := by
 intro a0 a1 k
 unfold turntablelaw33_CodeCut.f
 repeat' first
   | (with_reducible exact code_Bytes.mono _ _)
   | (with_reducible exact code_Read.mono _ _)
   | (with_reducible exact turntablelaw33_light.mono _ _)
   | (with_reducible exact turntablelaw33_works.mono _)
   | (with_reducible exact turntableref33_Check.mono _ _)
   | (with_reducible exact LeO.refl _)
   | (with_reducible exact LeO.none _)
   | (with_reducible refine LeO.ite ?_ ?_)
   | (with_reducible refine LeO.bind ?_ (fun _ => ?_))
   | exact code_Bytes.mono _ _
   | exact code_Read.mono _ _
   | exact turntablelaw33_light.mono _ _
   | exact turntablelaw33_works.mono _
   | exact turntableref33_Check.mono _ _
   | exact LeO.none _
   | refine LeO.ite ?_ ?_
   | refine LeO.bind ?_ (fun _ => ?_)
set_option maxHeartbeats 8000000 in
set_option maxRecDepth 100000 in
theorem turntablelaw33_CodeCut.calls (k : Nat) (A0 : Option Addr) (c0 : Nat) (l0 : List (S47)) (a1 : Int) (r : Bool) (w : World) (hr0 : Kd.C k47 w A0 l0.length l0) (hc0 : l0.length ≤ c0) (h : turntablelaw33_CodeCut.f k l0 a1 = some r) :
  Calls Try.prog 6 #[.slice A0 l0.length c0, .int .u16 a1] w fun e w' => e = .returned (.bool r) ∧ Below w.heap.size w w' := by
 have hu27 := Try.underlying27
 have hfl27_0 : ∀ (u0 u1 : Value) (W : World), (Instr.field 27 (.agg #[u0, u1]) 0).run Try.prog W = .ok (u0) W := fun _ _ _ => by show _ = _; kernel_rfl
 have HR0 := Aside0.mk hr0
 have HC0 := Aside0.mk hc0
 clear hr0 hc0
 have HB := Aside0.mk (Below.refl w.heap.size w)
 have H : ((turntablelaw33_light.f k l0).bind fun t423 => (if t423 = true then ((turntableref33_Check.f k l0).bind fun bt424 => (if bt424.1 = 0 then ((code_Bytes.f k l0).bind fun t426 => (if (t426.length : Int) = 0 then (none) else (if 0 ≤ (Int.tmod (wrap64 (a1)) (t426.length : Int)) then (if (Int.tmod (wrap64 (a1)) (t426.length : Int)) ≤ (t426.length : Int) then ((code_Read.f k (t426.take ((Int.tmod (wrap64 (a1)) (t426.length : Int)) : Int).toNat)).bind fun bt433 => (if bt433.2.1 = 0 then (none) else ((turntablelaw33_works.f k).bind fun t439 => (some t439)))) else (none)) else (none)))) else ((turntablelaw33_works.f k).bind fun t440 => (some t440)))) else ((turntablelaw33_works.f k).bind fun t441 => (some t441)))) = some r := h
 clear h
 replace H := Option.bind_eq_some_iff.mp H
 obtain ⟨t423, A30, H⟩ := H
 replace H : (if t423 = true then ((turntableref33_Check.f k l0).bind fun bt424 => (if bt424.1 = 0 then ((code_Bytes.f k l0).bind fun t426 => (if (t426.length : Int) = 0 then (none) else (if 0 ≤ (Int.tmod (wrap64 (a1)) (t426.length : Int)) then (if (Int.tmod (wrap64 (a1)) (t426.length : Int)) ≤ (t426.length : Int) then ((code_Read.f k (t426.take ((Int.tmod (wrap64 (a1)) (t426.length : Int)) : Int).toNat)).bind fun bt433 => (if bt433.2.1 = 0 then (none) else ((turntablelaw33_works.f k).bind fun t439 => (some t439)))) else (none)) else (none)))) else ((turntablelaw33_works.f k).bind fun t440 => (some t440)))) else ((turntablelaw33_works.f k).bind fun t441 => (some t441))) = some r := H
 have A3 := Aside0.mk A30
 clear A30
 by_cases c4 : t423 = true
 ·subst c4
  have H1 : ((turntableref33_Check.f k l0).bind fun bt424 => (if bt424.1 = 0 then ((code_Bytes.f k l0).bind fun t426 => (if (t426.length : Int) = 0 then (none) else (if 0 ≤ (Int.tmod (wrap64 (a1)) (t426.length : Int)) then (if (Int.tmod (wrap64 (a1)) (t426.length : Int)) ≤ (t426.length : Int) then ((code_Read.f k (t426.take ((Int.tmod (wrap64 (a1)) (t426.length : Int)) : Int).toNat)).bind fun bt433 => (if bt433.2.1 = 0 then (none) else ((turntablelaw33_works.f k).bind fun t439 => (some t439)))) else (none)) else (none)))) else ((turntablelaw33_works.f k).bind fun t440 => (some t440)))) = some r := by rw [if_pos rfl] at H; exact H
  clear H
  have H := H1
  clear H1
  replace H := Option.bind_eq_some_iff.mp H
  obtain ⟨⟨t424, t425⟩, A50, H⟩ := H
  replace H : (if t424 = 0 then ((code_Bytes.f k l0).bind fun t426 => (if (t426.length : Int) = 0 then (none) else (if 0 ≤ (Int.tmod (wrap64 (a1)) (t426.length : Int)) then (if (Int.tmod (wrap64 (a1)) (t426.length : Int)) ≤ (t426.length : Int) then ((code_Read.f k (t426.take ((Int.tmod (wrap64 (a1)) (t426.length : Int)) : Int).toNat)).bind fun bt433 => (if bt433.2.1 = 0 then (none) else ((turntablelaw33_works.f k).bind fun t439 => (some t439)))) else (none)) else (none)))) else ((turntablelaw33_works.f k).bind fun t440 => (some t440))) = some r := H
  have A5 := Aside0.mk A50
  clear A50
  by_cases c6 : t424 = 0
  ·rw [if_pos c6] at H
   have c6b0 : (t424 == 0) = true := beq_iff_eq.mpr c6
   have c6b1 : (t424 != 0) = false := bne_eq_false_iff_eq.mpr c6
   clear c6
   replace H := Option.bind_eq_some_iff.mp H
   obtain ⟨t426, A70, H⟩ := H
   replace H : (if (t426.length : Int) = 0 then (none) else (if 0 ≤ (Int.tmod (wrap64 (a1)) (t426.length : Int)) then (if (Int.tmod (wrap64 (a1)) (t426.length : Int)) ≤ (t426.length : Int) then ((code_Read.f k (t426.take ((Int.tmod (wrap64 (a1)) (t426.length : Int)) : Int).toNat)).bind fun bt433 => (if bt433.2.1 = 0 then (none) else ((turntablelaw33_works.f k).bind fun t439 => (some t439)))) else (none)) else (none))) = some r := H
   have A7 := Aside0.mk A70
   clear A70
   by_cases c8 : (t426.length : Int) = 0
   ·rw [if_pos c8] at H
    exact absurd H (by simp)
   ·rw [if_neg c8] at H
    have c8b0 : ((t426.length : Int) == 0) = false := beq_eq_false_iff_ne.mpr c8
    have c8b1 : ((t426.length : Int) != 0) = true := bne_iff_ne.mpr c8
    have c8b2 : ¬ (t426 = []) := fun h_ => c8 (by rw [h_]; rfl)
    obtain ⟨ji9, hji9⟩ : ∃ j_ : Int, (Int.tmod (wrap64 (a1)) (t426.length : Int)) = j_ := ⟨_, rfl⟩
    replace H : (if 0 ≤ (ji9) then (if (ji9) ≤ (t426.length : Int) then ((code_Read.f k (t426.take ((ji9) : Int).toNat)).bind fun bt433 => (if bt433.2.1 = 0 then (none) else ((turntablelaw33_works.f k).bind fun t439 => (some t439)))) else (none)) else (none)) = some r := by first | (rw [hji9] at H; exact H) | (simp only [hji9] at H ⊢; exact H)
    (try rw [hji9] at A3)
    (try rw [hji9] at A5)
    (try rw [hji9] at A7)
    by_cases c10 : 0 ≤ (ji9)
    ·rw [if_pos c10] at H
     have c10b0 := eq_true c10
     have c10b1 : decide (0 ≤ (ji9)) = true := decide_eq_true c10
     clear c10
     by_cases c11 : (ji9) ≤ (t426.length : Int)
     ·rw [if_pos c11] at H
      have c11b0 := eq_true c11
      have c11b1 : decide ((ji9) ≤ (t426.length : Int)) = true := decide_eq_true c11
      clear c11
      obtain ⟨y429, hy429⟩ : ∃ y_ : List Int, y_ = (t426.take ((ji9) : Int).toNat) := ⟨_, rfl⟩
      replace H : ((code_Read.f k y429).bind fun bt433 => (if bt433.2.1 = 0 then (none) else ((turntablelaw33_works.f k).bind fun t439 => (some t439)))) = some r := by first | (rw [hy429]; with_reducible exact H) | (have H2_ := (Option.bind_some _ _).symm.trans H; rw [hy429]; with_reducible exact H2_) | (have H2_ := (Option.bind_some _ _).symm.trans H; with_reducible exact H2_) | with_reducible exact H | (rw [hy429]; exact H) | exact H
      have Ny429 := Aside0.mk hy429
      clear hy429
      replace H := Option.bind_eq_some_iff.mp H
      obtain ⟨⟨t433, t436, t437⟩, A120, H⟩ := H
      replace H : (if t436 = 0 then (none) else ((turntablelaw33_works.f k).bind fun t439 => (some t439))) = some r := H
      have A12 := Aside0.mk A120
      clear A120
      by_cases c13 : t436 = 0
      ·rw [if_pos c13] at H
       exact absurd H (by simp)
      ·rw [if_neg c13] at H
       have c13b0 : (t436 == 0) = false := beq_eq_false_iff_ne.mpr c13
       have c13b1 : (t436 != 0) = true := bne_iff_ne.mpr c13
       replace H := Option.bind_eq_some_iff.mp H
       obtain ⟨t439, A140, H⟩ := H
       replace H : (some t439) = some r := H
       have A14 := Aside0.mk A140
       clear A140
       obtain rfl := Option.some.inj H
       go_enter Try.func6, Try.ntmps6
       go_wp2_with (first | ((with_reducible refine gate_callee (f := 11) rfl ?_); refine goesL_ (some 9) rfl rfl Try.func11 (by kernel_rfl) rfl #[.slice A0 l0.length c0] rfl zA ?_; (with_reducible refine (turntablelaw33_light.calls k _ _ l0 true _ ?side1 ?side2 A3.out).mono ?_); (case side1 => repeat (first | exact HR0.out | (with_reducible refine Kd.C_alloc ?_ _) | (with_reducible refine Kd.C_drewN ?_ _) | (with_reducible refine Kd.C_drew ?_))); (case side2 => exact HC0.out); rintro e w' ⟨rfl, ⟨nd, rfl⟩⟩; refine ⟨_, rfl, ?_⟩) | (go_at_call 14; (with_reducible refine (turntableref33_Check.calls k _ _ l0 t424 t425 _ ?side1 ?side2 A5.out).mono ?_); (case side1 => repeat (first | exact HR0.out | (with_reducible refine Kd.C_alloc ?_ _) | (with_reducible refine Kd.C_drewN ?_ _) | (with_reducible refine Kd.C_drew ?_))); (case side2 => exact HC0.out); rintro e w15 ⟨rfl, hb⟩; have n0_ := Aside0.mk (below_step (zB HB.out) hb); clear HB; have HB := n0_; clear n0_; (try clear hb); (try clear hb2); (try clear hk); (try clear hi)) | ((with_reducible refine gate_callee (f := 16) rfl ?_); refine goesL_ (some 19) rfl rfl Try.func16 (by kernel_rfl) rfl #[.slice A0 l0.length c0] rfl zA ?_; (with_reducible refine (code_Bytes.calls k _ _ l0 t426 _ ?side1 ?side2 A7.out).mono ?_); (case side1 => repeat (first | exact (Kd.C_below HR0.out HB.out) | (with_reducible refine Kd.C_alloc ?_ _) | (with_reducible refine Kd.C_drewN ?_ _) | (with_reducible refine Kd.C_drew ?_))); (case side2 => exact HC0.out); rintro e w16 ⟨v427, rfl, ho0, hb⟩; refine ⟨_, rfl, ?_⟩; have n0_ := Aside0.mk (Kd.R_lower ho0 (below_size (zB HB.out))); have n1_ := Aside0.mk (below_step (zB HB.out) hb); clear HB; have HO428 := n0_; have HB := n1_; clear n0_ n1_; (try clear hb); (try clear hb2); (try clear hk); (try clear hi); (try clear ho0); obtain ⟨Ao17, co17, eo17⟩ := Kd.R_slice HO428.out; subst eo17; have q18 : ((ji9) : Int) ≤ ((t426.length : Int) : Int) := of_decide_eq_true zS; obtain ⟨i018, hi018, _, hsz18, _⟩ := info_parts info5; have hroom18 : t426.length ≤ co17 := (Kd.R_reads' HO428.out).2.1; have hC18 : Kd.C (Kd.int .u8) _ Ao17 t426.length t426 := (Kd.R_reads' HO428.out).2.2; have hcut18 := cut_to (P := Try.prog) 29 5 .i64 Try.underlying29 hi018 Ao17 t426.length co17 (ji9) (of_decide_eq_true zS) q18 hroom18; have hr18 := Kd.C_take (m := ((ji9) : Int).toNat) hC18 (by omega); have hy18 : y429.length = ((ji9) : Int).toNat := (by rw [Ny429.out, List.length_take]; omega); rw [← Ny429.out] at hr18; rw [← hy18] at hcut18; have HR432 := Aside0.mk hr18; have HC432 := Aside0.mk (show y429.length ≤ co17 from by omega); clear hr18 hC18 hroom18 hi018 hsz18; have KY18 := Aside0.mk hy18; clear hy18; have KL18 := Aside0.mk (show ((ji9) : Int).toNat ≤ t426.length from by omega); replace q18 := eq_true q18) | ((with_reducible refine gate_callee (f := 15) rfl ?_); refine goesL_ (some 31) rfl rfl Try.func15 (by kernel_rfl) rfl #[.slice Ao17 y429.length co17] rfl zA ?_; (with_reducible refine (code_Read.calls k _ _ y429 t433 t436 t437 _ ?side1 ?side2 A12.out).mono ?_); (case side1 => repeat (first | exact (by repeat (first | (with_reducible exact HR432.out) | (with_reducible refine Kd.C_alloc ?_ _) | (with_reducible refine Kd.C_drewN ?_ _) | (with_reducible refine Kd.C_drew ?_) | exact HR432.out)) | (with_reducible refine Kd.C_alloc ?_ _) | (with_reducible refine Kd.C_drewN ?_ _) | (with_reducible refine Kd.C_drew ?_))); (case side2 => exact HC432.out); rintro e w19 ⟨v434, rfl, ho0, hb⟩; refine ⟨_, rfl, ?_⟩; have n0_ := Aside0.mk (Kd.R_below (zR HO428.out) hb); have n1_ := Aside0.mk (Kd.R_lower ho0 (below_size (zB HB.out))); have n2_ := Aside0.mk (Kd.C_below (by repeat (first | (with_reducible exact HR432.out) | (with_reducible refine Kd.C_alloc ?_ _) | (with_reducible refine Kd.C_drewN ?_ _) | (with_reducible refine Kd.C_drew ?_) | exact HR432.out)) hb); have n3_ := Aside0.mk (below_step (zB HB.out) hb); clear HO428; clear HR432; clear HB; have HO428 := n0_; have HO435 := n1_; have HR432 := n2_; have HB := n3_; clear n0_ n1_ n2_ n3_; (try clear hb); (try clear hb2); (try clear hk); (try clear hi); (try clear ho0)) | ((with_reducible refine gate_dst (N := 7) rfl ?_); refine box_event ?hg (N := 7) ?hd (cs := #[.int .i64 0, .int .i64 0]) (t := 27) ?hr ?_; (case hd => rfl); (case hg => rfl); (case hr => first | (go_simp; done) | (go_simp; rfl)); intro gb438 hg w20 hbox hb; have n0_ := Aside0.mk (Kd.R_below (zR HO428.out) hb); have n1_ := Aside0.mk (Kd.R_below (zR HO435.out) hb); have n2_ := Aside0.mk (Kd.C_below (by repeat (first | (with_reducible exact HR432.out) | (with_reducible refine Kd.C_alloc ?_ _) | (with_reducible refine Kd.C_drewN ?_ _) | (with_reducible refine Kd.C_drew ?_) | exact HR432.out)) hb); have n3_ := Aside0.mk (below_step (zB HB.out) hb); have n4_ := Aside0.mk (hbox); have n5_ := Aside0.mk ((by rw [hg]; exact (below_size (zB HB.out)) : w.heap.size ≤ gb438)); have n6_ := Aside0.mk ((by rw [hg]; exact (below_size (zB HB.out)) : w.heap.size ≤ gb438)); clear HO428; clear HO435; clear HR432; clear HB; have HO428 := n0_; have HO435 := n1_; have HR432 := n2_; have HB := n3_; have BK438 := n4_; have GW438 := n5_; have GE438 := n6_; clear n0_ n1_ n2_ n3_ n4_ n5_ n6_; clear hb hbox hg; have hcz21_0 : w20.cell? ⟨gb438, 0, none⟩ = some (.int .i64 0) := (blk_cell BK438.out 0).trans rfl; have hcz21_1 : w20.cell? ⟨gb438, 1, none⟩ = some (.int .i64 0) := (blk_cell BK438.out 1).trans rfl; have hfz21_0 := blk_frozen BK438.out 0; have hfz21_1 := blk_frozen BK438.out 1) | (go_at_call 12; (with_reducible refine (turntablelaw33_works.calls k  t439 _ A14.out).mono ?_); rintro e w22 ⟨rfl, hb⟩; have n0_ := Aside0.mk (Kd.R_below (zR (Kd.R_mono (Kd.R_far (p := ⟨gb438, 1, none⟩) (Kd.R_far (p := ⟨gb438, 0, none⟩) (Kd.R_types HO428.out BK438.out (by decide)) (fun _ hk => hk.2) (.int .i64 t436)) (fun _ hk => hk.2) (.int .i64 t437)) (fun _ h_ => h_.1))) hb); have n1_ := Aside0.mk (Kd.R_below (zR (Kd.R_mono (Kd.R_far (p := ⟨gb438, 1, none⟩) (Kd.R_far (p := ⟨gb438, 0, none⟩) (Kd.R_types HO435.out BK438.out (by decide)) (fun _ hk => hk.2) (.int .i64 t436)) (fun _ hk => hk.2) (.int .i64 t437)) (fun _ h_ => h_.1))) hb); have n2_ := Aside0.mk (blk_below (g := gb438) (o := .cells #[.int .i64 t436, .int .i64 t437] 27 (0, 0)) (by (with_reducible repeat (first | refine blk_drewN ?_ _ | refine blk_drew ?_ | refine blk_alloc ?_ _)); refine blk_put (cs := #[.int .i64 t436, .int .i64 0]) ?_ 1 _ rfl; (with_reducible repeat (first | refine blk_drewN ?_ _ | refine blk_drew ?_ | refine blk_alloc ?_ _)); refine blk_put (cs := #[.int .i64 0, .int .i64 0]) ?_ 0 _ rfl; (with_reducible repeat (first | refine blk_drewN ?_ _ | refine blk_drew ?_ | refine blk_alloc ?_ _)); exact BK438.out) hb); have n3_ := Aside0.mk (below_step (zC HB.out GE438.out) hb); clear HO428; clear HO435; clear BK438; clear HB; have HO428 := n0_; have HO435 := n1_; have BK438 := n2_; have HB := n3_; clear n0_ n1_ n2_ n3_; (try clear hb); (try clear hb2); (try clear hk); (try clear hi)))
       go_ret
       exact ⟨by first | rfl | (simp [errW_none, errW_some] <;> rfl) | (simp only [← hji9]; first | rfl | (simp [errW_none, errW_some] <;> rfl)) | (simp [*, errW_none, errW_some] <;> rfl), zC HB.out GE438.out⟩
     ·rw [if_neg c11] at H
      exact absurd H (by simp)
    ·rw [if_neg c10] at H
     exact absurd H (by simp)
  ·rw [if_neg c6] at H
   have c6b0 : (t424 == 0) = false := beq_eq_false_iff_ne.mpr c6
   have c6b1 : (t424 != 0) = true := bne_iff_ne.mpr c6
   replace H := Option.bind_eq_some_iff.mp H
   obtain ⟨t440, A230, H⟩ := H
   replace H : (some t440) = some r := H
   have A23 := Aside0.mk A230
   clear A230
   obtain rfl := Option.some.inj H
   go_enter Try.func6, Try.ntmps6
   go_wp2_with (first | ((with_reducible refine gate_callee (f := 11) rfl ?_); refine goesL_ (some 9) rfl rfl Try.func11 (by kernel_rfl) rfl #[.slice A0 l0.length c0] rfl zA ?_; (with_reducible refine (turntablelaw33_light.calls k _ _ l0 true _ ?side1 ?side2 A3.out).mono ?_); (case side1 => repeat (first | exact HR0.out | (with_reducible refine Kd.C_alloc ?_ _) | (with_reducible refine Kd.C_drewN ?_ _) | (with_reducible refine Kd.C_drew ?_))); (case side2 => exact HC0.out); rintro e w' ⟨rfl, ⟨nd, rfl⟩⟩; refine ⟨_, rfl, ?_⟩) | (go_at_call 14; (with_reducible refine (turntableref33_Check.calls k _ _ l0 t424 t425 _ ?side1 ?side2 A5.out).mono ?_); (case side1 => repeat (first | exact HR0.out | (with_reducible refine Kd.C_alloc ?_ _) | (with_reducible refine Kd.C_drewN ?_ _) | (with_reducible refine Kd.C_drew ?_))); (case side2 => exact HC0.out); rintro e w24 ⟨rfl, hb⟩; have n0_ := Aside0.mk (below_step (zB HB.out) hb); clear HB; have HB := n0_; clear n0_; (try clear hb); (try clear hb2); (try clear hk); (try clear hi)) | ((with_reducible refine gate_callee (f := 12) rfl ?_); refine goesL_ (some 17) rfl rfl Try.func12 (by kernel_rfl) rfl #[] rfl zA ?_; (with_reducible refine (turntablelaw33_works.calls k  t440 _ A23.out).mono ?_); rintro e w25 ⟨rfl, hb⟩; refine ⟨_, rfl, ?_⟩; have n0_ := Aside0.mk (below_step (zB HB.out) hb); clear HB; have HB := n0_; clear n0_; (try clear hb); (try clear hb2); (try clear hk); (try clear hi)))
   go_ret
   exact ⟨zF, zB HB.out⟩
 ·replace c4 := Bool.eq_false_iff.mpr c4
  subst c4
  have H1 : ((turntablelaw33_works.f k).bind fun t441 => (some t441)) = some r := by rw [if_neg (show ¬ (false = true) by decide)] at H; exact H
  clear H
  have H := H1
  clear H1
  replace H := Option.bind_eq_some_iff.mp H
  obtain ⟨t441, A260, H⟩ := H
  replace H : (some t441) = some r := H
  have A26 := Aside0.mk A260
  clear A260
  obtain rfl := Option.some.inj H
  go_enter Try.func6, Try.ntmps6
  go_wp2_with (first | ((with_reducible refine gate_callee (f := 11) rfl ?_); refine goesL_ (some 9) rfl rfl Try.func11 (by kernel_rfl) rfl #[.slice A0 l0.length c0] rfl zA ?_; (with_reducible refine (turntablelaw33_light.calls k _ _ l0 false _ ?side1 ?side2 A3.out).mono ?_); (case side1 => repeat (first | exact HR0.out | (with_reducible refine Kd.C_alloc ?_ _) | (with_reducible refine Kd.C_drewN ?_ _) | (with_reducible refine Kd.C_drew ?_))); (case side2 => exact HC0.out); rintro e w' ⟨rfl, ⟨nd, rfl⟩⟩; refine ⟨_, rfl, ?_⟩) | ((with_reducible refine gate_callee (f := 12) rfl ?_); refine goesL_ (some 17) rfl rfl Try.func12 (by kernel_rfl) rfl #[] rfl zA ?_; (with_reducible refine (turntablelaw33_works.calls k  t441 _ A26.out).mono ?_); rintro e w27 ⟨rfl, hb⟩; refine ⟨_, rfl, ?_⟩; have n0_ := Aside0.mk (below_step (zB HB.out) hb); clear HB; have HB := n0_; clear n0_; (try clear hb); (try clear hb2); (try clear hk); (try clear hi)))
  go_ret
  exact ⟨zF, zB HB.out⟩

end Go.Proofs.Ytpjehipemljkpaa.PCo
