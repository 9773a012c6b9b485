/- What is known of an operation of which a number is known is what the operation makes. -/
import Derived.Test.YthnkgnbemmndgaaSaidArithTrue
namespace Go.Proofs.Ythnkgnbemmndgaa.Pure
open Go.RowKit Go.Proofs.Ythnkgnbemmndgaa.PAt Go.Proofs.Ythnkgnbemmndgaa.ArithTrueSaid Go.Proofs.YthnkgnbemmndgaaW.PrintWords Go.Proofs.YthnkgnbemmndgaaW.PrintLast
set_option linter.unusedSimpArgs false
set_option linter.unusedVariables false

theorem at_works : turntablelaw04_works.f 20 = some true := by decide +kernel

theorem true_of {a : Int} {b0 b1 : Bool} {n0 n1 x y p1 p2 : Int} (hs : arith_Simple.f 20 a b0 b1 n0 n1 = some (p1, p2))
    (h : p1 < 0 ∨ ∃ q, arith_Do.f a (if b0 = true then n0 else x) (if b1 = true then n1 else y) = some (q, 0) ∧ p1 ≤ 2 ∧ (if p1 = 0 then (if b0 = true then n0 else x) else if p1 = 1 then (if b1 = true then n1 else y) else p2) = q) :
    turntablelaw04_ArithTrue.f 20 a b0 b1 n0 n1 x y = some true := by
  unfold turntablelaw04_ArithTrue.f
  rw [hs]
  show (if p1 < 0 then _ else _) = _
  rcases h with h | ⟨q, h1, h2, h3⟩
  · rw [if_pos h, at_works]
  · by_cases h0 : p1 < 0
    · rw [if_pos h0, at_works]
    · rw [if_neg h0, h1]
      show (if _ then _ else _) = _
      rw [if_pos ⟨h2, rfl, h3⟩, at_works]

theorem i64_in {a : Int} (h : (Lit.int .i64 a).wf = true) : -9223372036854775808 ≤ a ∧ a ≤ 9223372036854775807 := by
  simpa [Lit.wf, IntKind.min, IntKind.max, IntKind.signed, IntKind.bits] using h

theorem wid {x : Int} (h : -9223372036854775808 ≤ x ∧ x ≤ 9223372036854775807) : wrap64 x = x := by unfold wrap64; omega

theorem do_some (a b c : Int) : ∃ r, arith_Do.f a b c = some r := by
  unfold arith_Do.f arith_flag.f
  repeat' first | exact ⟨_, rfl⟩ | split

theorem is_cases (a : Int) : arith_Is.f a = some true ∧ (a = 2 ∨ a = 3 ∨ a = 4 ∨ a = 5 ∨ a = 6 ∨ a = 7) ∨ arith_Is.f a = some false := by
  unfold arith_Is.f
  by_cases h2 : a = 2
  · simp [h2]
  by_cases h3 : a = 3
  · simp [h3]
  by_cases h4 : a = 4
  · simp [h4]
  by_cases h5 : a = 5
  · simp [h5]
  by_cases h6 : a = 6
  · simp [h6]
  by_cases h7 : a = 7
  · simp [h7]
  simp [h2, h3, h4, h5, h6, h7]

theorem do_zero_l {y : Int} (h : -9223372036854775808 ≤ y ∧ y ≤ 9223372036854775807) : arith_Do.f 2 0 y = some (y, 0) := by
  simp [arith_Do.f, wid h]
theorem do_one_l {y : Int} (h : -9223372036854775808 ≤ y ∧ y ≤ 9223372036854775807) : arith_Do.f 4 1 y = some (y, 0) := by
  simp [arith_Do.f, wid h]
theorem do_zero_r {x : Int} (h : -9223372036854775808 ≤ x ∧ x ≤ 9223372036854775807) : arith_Do.f 2 x 0 = some (x, 0) := by
  simp [arith_Do.f, wid h]
theorem do_sub_r {x : Int} (h : -9223372036854775808 ≤ x ∧ x ≤ 9223372036854775807) : arith_Do.f 3 x 0 = some (x, 0) := by
  have : wrap64 0 = 0 := wid (by omega)
  simp [arith_Do.f, this, wid h]
theorem do_one_r {x : Int} (h : -9223372036854775808 ≤ x ∧ x ≤ 9223372036854775807) : arith_Do.f 4 x 1 = some (x, 0) := by
  simp [arith_Do.f, wid h]
theorem do_div_r {x : Int} (h : -9223372036854775808 ≤ x ∧ x ≤ 9223372036854775807) : arith_Do.f 5 x 1 = some (x, 0) := by
  simp [arith_Do.f, wid h]
theorem do_nought_l (y : Int) : arith_Do.f 4 0 y = some (0, 0) := by
  have : wrap64 0 = 0 := wid (by omega)
  simp [arith_Do.f, this]
theorem do_nought_r (y : Int) : arith_Do.f 4 y 0 = some (0, 0) := by
  have : wrap64 0 = 0 := wid (by omega)
  simp [arith_Do.f, this]

theorem true_main (a : Int) (b0 b1 : Bool) (n0 n1 x y : Int) (hx : -9223372036854775808 ≤ x ∧ x ≤ 9223372036854775807) (hy : -9223372036854775808 ≤ y ∧ y ≤ 9223372036854775807) : turntablelaw04_ArithTrue.f 20 a b0 b1 n0 n1 x y = some true := by
  rcases is_cases a with ⟨hi, ha⟩ | hi
  · cases b0 with
    | true =>
      cases b1 with
      | true =>
        obtain ⟨⟨q, t⟩, hq⟩ := do_some a n0 n1
        by_cases ht : t = 0
        · subst ht
          exact true_of (p1 := 2) (p2 := q) (by simp [arith_Simple.f, hi, arith_Simple.j0, hq]) (.inr ⟨q, by simpa using hq, by omega, by simp⟩)
        · exact true_of (p1 := -1) (p2 := 0) (by simp [arith_Simple.f, hi, arith_Simple.j0, hq, ht]) (.inl (by omega))
      | false =>
        by_cases h0 : n0 = 0
        · subst h0
          rcases ha with rfl | rfl | rfl | rfl | rfl | rfl
          · exact true_of (p1 := 1) (p2 := 0) (by simp [arith_Simple.f, hi, arith_Simple.j0, arith_Simple.j1, arith_Simple.j2, arith_Simple.j3, arith_Simple.j4]) (.inr ⟨y, by simpa using do_zero_l hy, by omega, by simp⟩)
          · exact true_of (p1 := -1) (p2 := 0) (by simp [arith_Simple.f, hi, arith_Simple.j0, arith_Simple.j1, arith_Simple.j2, arith_Simple.j3, arith_Simple.j4]) (.inl (by omega))
          · exact true_of (p1 := 2) (p2 := 0) (by simp [arith_Simple.f, hi, arith_Simple.j0, arith_Simple.j1, arith_Simple.j2, arith_Simple.j3, arith_Simple.j4]) (.inr ⟨0, by simpa using do_nought_l y, by omega, by simp⟩)
          all_goals exact true_of (p1 := -1) (p2 := 0) (by simp [arith_Simple.f, hi, arith_Simple.j0, arith_Simple.j1, arith_Simple.j2, arith_Simple.j3, arith_Simple.j4]) (.inl (by omega))
        · by_cases h1 : n0 = 1
          · subst h1
            rcases ha with rfl | rfl | rfl | rfl | rfl | rfl
            · exact true_of (p1 := -1) (p2 := 0) (by simp [arith_Simple.f, hi, arith_Simple.j0, arith_Simple.j1, arith_Simple.j2, arith_Simple.j3, arith_Simple.j4]) (.inl (by omega))
            · exact true_of (p1 := -1) (p2 := 0) (by simp [arith_Simple.f, hi, arith_Simple.j0, arith_Simple.j1, arith_Simple.j2, arith_Simple.j3, arith_Simple.j4]) (.inl (by omega))
            · exact true_of (p1 := 1) (p2 := 0) (by simp [arith_Simple.f, hi, arith_Simple.j0, arith_Simple.j1, arith_Simple.j2, arith_Simple.j3, arith_Simple.j4]) (.inr ⟨y, by simpa using do_one_l hy, by omega, by simp⟩)
            all_goals exact true_of (p1 := -1) (p2 := 0) (by simp [arith_Simple.f, hi, arith_Simple.j0, arith_Simple.j1, arith_Simple.j2, arith_Simple.j3, arith_Simple.j4]) (.inl (by omega))
          · rcases ha with rfl | rfl | rfl | rfl | rfl | rfl
            all_goals exact true_of (p1 := -1) (p2 := 0) (by simp [arith_Simple.f, hi, arith_Simple.j0, arith_Simple.j1, arith_Simple.j2, arith_Simple.j3, arith_Simple.j4, h0, h1]) (.inl (by omega))
    | false =>
      cases b1 with
      | true =>
        by_cases h0 : n1 = 0
        · subst h0
          rcases ha with rfl | rfl | rfl | rfl | rfl | rfl
          · exact true_of (p1 := 0) (p2 := 0) (by simp [arith_Simple.f, hi, arith_Simple.j0, arith_Simple.j1, arith_Simple.j2, arith_Simple.j3, arith_Simple.j4]) (.inr ⟨x, by simpa using do_zero_r hx, by omega, by simp⟩)
          · exact true_of (p1 := 0) (p2 := 0) (by simp [arith_Simple.f, hi, arith_Simple.j0, arith_Simple.j1, arith_Simple.j2, arith_Simple.j3, arith_Simple.j4]) (.inr ⟨x, by simpa using do_sub_r hx, by omega, by simp⟩)
          · exact true_of (p1 := 2) (p2 := 0) (by simp [arith_Simple.f, hi, arith_Simple.j0, arith_Simple.j1, arith_Simple.j2, arith_Simple.j3, arith_Simple.j4]) (.inr ⟨0, by simpa using do_nought_r x, by omega, by simp⟩)
          all_goals exact true_of (p1 := -1) (p2 := 0) (by simp [arith_Simple.f, hi, arith_Simple.j0, arith_Simple.j1, arith_Simple.j2, arith_Simple.j3, arith_Simple.j4]) (.inl (by omega))
        · by_cases h1 : n1 = 1
          · subst h1
            rcases ha with rfl | rfl | rfl | rfl | rfl | rfl
            · exact true_of (p1 := -1) (p2 := 0) (by simp [arith_Simple.f, hi, arith_Simple.j0, arith_Simple.j1, arith_Simple.j2, arith_Simple.j3, arith_Simple.j4]) (.inl (by omega))
            · exact true_of (p1 := -1) (p2 := 0) (by simp [arith_Simple.f, hi, arith_Simple.j0, arith_Simple.j1, arith_Simple.j2, arith_Simple.j3, arith_Simple.j4]) (.inl (by omega))
            · exact true_of (p1 := 0) (p2 := 0) (by simp [arith_Simple.f, hi, arith_Simple.j0, arith_Simple.j1, arith_Simple.j2, arith_Simple.j3, arith_Simple.j4]) (.inr ⟨x, by simpa using do_one_r hx, by omega, by simp⟩)
            · exact true_of (p1 := 0) (p2 := 0) (by simp [arith_Simple.f, hi, arith_Simple.j0, arith_Simple.j1, arith_Simple.j2, arith_Simple.j3, arith_Simple.j4]) (.inr ⟨x, by simpa using do_div_r hx, by omega, by simp⟩)
            all_goals exact true_of (p1 := -1) (p2 := 0) (by simp [arith_Simple.f, hi, arith_Simple.j0, arith_Simple.j1, arith_Simple.j2, arith_Simple.j3, arith_Simple.j4]) (.inl (by omega))
          · rcases ha with rfl | rfl | rfl | rfl | rfl | rfl
            all_goals exact true_of (p1 := -1) (p2 := 0) (by simp [arith_Simple.f, hi, arith_Simple.j0, arith_Simple.j1, arith_Simple.j2, arith_Simple.j3, arith_Simple.j4, h0, h1]) (.inl (by omega))
      | false =>
        rcases ha with rfl | rfl | rfl | rfl | rfl | rfl
        all_goals exact true_of (p1 := -1) (p2 := 0) (by simp [arith_Simple.f, hi, arith_Simple.j0, arith_Simple.j1, arith_Simple.j2, arith_Simple.j3, arith_Simple.j4]) (.inl (by omega))
  · exact true_of (p1 := -1) (p2 := 0) (by simp [arith_Simple.f, hi]) (.inl (by omega))

theorem ArithTrue : ArithTrue.Good := by
  intro a0 a1 a2 a3 a4 _ _ _ h3 h4
  exact ⟨20, true_main a0 _ _ _ _ a3 a4 (i64_in h3) (i64_in h4)⟩
end Go.Proofs.Ythnkgnbemmndgaa.Pure
