/- What the program knows of an operation of which one number is known is what the reference knows; no conditions. -/
import Derived.Test.YthnkgnbemmndgaaSaidArithSimple
import Derived.Test.YthnkgnbemmndgaaPureArithDoes
namespace Go.Proofs.Ythnkgnbemmndgaa.Pure
open Go.RowKit Go.Proofs.Ythnkgnbemmndgaa.PAr Go.Proofs.Ythnkgnbemmndgaa.ArithSimpleSaid Go.Proofs.YthnkgnbemmndgaaW.PrintWords Go.Proofs.YthnkgnbemmndgaaW.PrintLast
set_option linter.unusedSimpArgs false

theorem ref_do (k : Nat) (a b c : Int) : turntableref04_Do.f (k + 1) a b c = arith_Do.f a b c := by
  have hs : wrap64 (b + wrap64 (-c)) = wrap64 (b - c) := by unfold wrap64; omega
  by_cases h2 : a = 2
  · subst h2; simp [arith_Do.f, turntableref04_Do.f]
  by_cases h3 : a = 3
  · subst h3; simp [arith_Do.f, turntableref04_Do.f, hs]
  by_cases h4 : a = 4
  · subst h4; simp [arith_Do.f, turntableref04_Do.f]
  by_cases h5 : a = 5
  · subst h5
    by_cases hc : c = 0
    · subst hc; simp [arith_Do.f, turntableref04_Do.f, turntableref04_Do.j0]
    · by_cases hc1 : c = -1
      · subst hc1; simp [arith_Do.f, turntableref04_Do.f, turntableref04_Do.j0, turntableref04_quotient.f]
      · simp [arith_Do.f, turntableref04_Do.f, turntableref04_Do.j0, turntableref04_quotient.f, hc, hc1]
  by_cases h6 : a = 6
  · subst h6
    by_cases hc : b < c <;> simp [arith_Do.f, turntableref04_Do.f, turntableref04_Do.j0, arith_flag.f, hc]
  by_cases h7 : a = 7
  · subst h7
    by_cases hc : b = c <;> simp [arith_Do.f, turntableref04_Do.f, turntableref04_Do.j0, arith_flag.f, hc]
  simp [arith_Do.f, turntableref04_Do.f, turntableref04_Do.j0, h2, h3, h4, h5, h6, h7]

theorem ref_is (a : Int) : turntableref04_Is.f a = arith_Is.f a := by
  unfold turntableref04_Is.f arith_Is.f
  by_cases h1 : a ≥ 2
  · by_cases h2 : a ≤ 7
    · have : a = 2 ∨ a = 3 ∨ a = 4 ∨ a = 5 ∨ a = 6 ∨ a = 7 := by omega
      rcases this with rfl | rfl | rfl | rfl | rfl | rfl <;> simp
    · rw [if_pos h1, if_neg (by omega), if_neg (by omega), if_neg (by omega), if_neg (by omega), if_neg (by omega), if_neg (by omega)]
      simp [h2]
  · rw [if_neg h1, if_neg (by omega), if_neg (by omega), if_neg (by omega), if_neg (by omega), if_neg (by omega), if_neg (by omega)]

theorem do_known (a b c : Int) : ∃ r, arith_Do.f a b c = some r := by
  unfold arith_Do.f arith_flag.f
  repeat' first | exact ⟨_, rfl⟩ | split

theorem simple_same (a : Int) (p q : Bool) (m n : Int) : ∃ r, arith_Simple.f 20 a p q m n = some r ∧ turntableref04_Simple.f 20 a p q m n = some r := by
  unfold arith_Simple.f turntableref04_Simple.f
  rw [ref_is]
  have hi : arith_Is.f a = some true ∨ arith_Is.f a = some false := by
    unfold arith_Is.f
    repeat' first | exact .inl rfl | exact .inr rfl | split
  rcases hi with hi | hi
  · rw [hi]
    obtain ⟨r, hr⟩ := do_known a m n
    have h6 : a = 2 ∨ a = 3 ∨ a = 4 ∨ a = 5 ∨ a = 6 ∨ a = 7 := by
      unfold arith_Is.f at hi
      by_cases h2 : a = 2
      · exact .inl h2
      by_cases h3 : a = 3
      · exact .inr (.inl h3)
      by_cases h4 : a = 4
      · exact .inr (.inr (.inl h4))
      by_cases h5 : a = 5
      · exact .inr (.inr (.inr (.inl h5)))
      by_cases h6 : a = 6
      · exact .inr (.inr (.inr (.inr (.inl h6))))
      by_cases h7 : a = 7
      · exact .inr (.inr (.inr (.inr (.inr h7))))
      simp [h2, h3, h4, h5, h6, h7] at hi
    cases p
    · cases q
      · rcases h6 with rfl | rfl | rfl | rfl | rfl | rfl <;> simp [arith_Simple.j0, arith_Simple.j1, arith_Simple.j2, arith_Simple.j3, arith_Simple.j4, turntableref04_Simple.j0, turntableref04_Simple.j1, turntableref04_Simple.j2, turntableref04_Simple.j3]
      · by_cases h0 : n = 0
        · subst h0
          rcases h6 with rfl | rfl | rfl | rfl | rfl | rfl <;> simp [arith_Simple.j0, arith_Simple.j1, arith_Simple.j2, arith_Simple.j3, arith_Simple.j4, turntableref04_Simple.j0, turntableref04_Simple.j1, turntableref04_Simple.j2, turntableref04_Simple.j3]
        · by_cases h1 : n = 1
          · subst h1
            rcases h6 with rfl | rfl | rfl | rfl | rfl | rfl <;> simp [arith_Simple.j0, arith_Simple.j1, arith_Simple.j2, arith_Simple.j3, arith_Simple.j4, turntableref04_Simple.j0, turntableref04_Simple.j1, turntableref04_Simple.j2, turntableref04_Simple.j3]
          · have e0 : (n == 0) = false := by simpa using h0
            have e1 : (n == 1) = false := by simpa using h1
            rcases h6 with rfl | rfl | rfl | rfl | rfl | rfl <;> simp [arith_Simple.j0, arith_Simple.j1, arith_Simple.j2, arith_Simple.j3, arith_Simple.j4, turntableref04_Simple.j0, turntableref04_Simple.j1, turntableref04_Simple.j2, turntableref04_Simple.j3, h0, h1, e0, e1]
    · cases q
      · by_cases h0 : m = 0
        · subst h0
          rcases h6 with rfl | rfl | rfl | rfl | rfl | rfl <;> simp [arith_Simple.j0, arith_Simple.j1, arith_Simple.j2, arith_Simple.j3, arith_Simple.j4, turntableref04_Simple.j0, turntableref04_Simple.j1, turntableref04_Simple.j2, turntableref04_Simple.j3]
        · by_cases h1 : m = 1
          · subst h1
            rcases h6 with rfl | rfl | rfl | rfl | rfl | rfl <;> simp [arith_Simple.j0, arith_Simple.j1, arith_Simple.j2, arith_Simple.j3, arith_Simple.j4, turntableref04_Simple.j0, turntableref04_Simple.j1, turntableref04_Simple.j2, turntableref04_Simple.j3]
          · have e0 : (m == 0) = false := by simpa using h0
            have e1 : (m == 1) = false := by simpa using h1
            rcases h6 with rfl | rfl | rfl | rfl | rfl | rfl <;> simp [arith_Simple.j0, arith_Simple.j1, arith_Simple.j2, arith_Simple.j3, arith_Simple.j4, turntableref04_Simple.j0, turntableref04_Simple.j1, turntableref04_Simple.j2, turntableref04_Simple.j3, h0, h1, e0, e1]
      · simp only [Option.bind_some, if_true, arith_Simple.j0, turntableref04_Simple.j0, ref_do, hr]
        split <;> exact ⟨_, rfl, rfl⟩
  · rw [hi]
    exact ⟨_, rfl, rfl⟩

theorem ArithSimple : ArithSimple.Good := by
  intro a x y _ _ _
  refine ⟨20, ?_⟩
  obtain ⟨r, h1, h2⟩ := simple_same a x.f0 x.f1 y.f0 y.f1
  simp [turntablelaw04_ArithSimple.f, h1, h2, arith_works]

end Go.Proofs.Ythnkgnbemmndgaa.Pure
