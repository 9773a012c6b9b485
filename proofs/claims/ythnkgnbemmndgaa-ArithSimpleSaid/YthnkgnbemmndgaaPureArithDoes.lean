/- For every operation and any two numbers the program and the reference make the same of them, agree on which operations there are, and on which of them turn; no conditions. -/
import Derived.Test.YthnkgnbemmndgaaPArx3
namespace Go.Proofs.Ythnkgnbemmndgaa.Pure
open Go.RowKit Go.Proofs.Ythnkgnbemmndgaa.PAr Go.Proofs.YthnkgnbemmndgaaW.PrintWords Go.Proofs.YthnkgnbemmndgaaW.PrintLast

theorem arith_works : turntablelaw04_works.f 20 = some true := by decide +kernel

theorem ArithDoes : turntablelaw04_ArithDoes.Pure := by
  intro a b c _ _ _
  refine ⟨20, ?_⟩
  have hs : wrap64 (b + wrap64 (-c)) = wrap64 (b - c) := by unfold wrap64; omega
  simp only [turntablelaw04_ArithDoes.f, arith_works]
  by_cases h2 : a = 2
  · subst h2; simp [arith_Do.f, turntableref04_Do.f, arith_Is.f, turntableref04_Is.f, arith_Turns.f, turntableref04_Turns.f]
  by_cases h3 : a = 3
  · subst h3; simp [arith_Do.f, turntableref04_Do.f, arith_Is.f, turntableref04_Is.f, arith_Turns.f, turntableref04_Turns.f, hs]
  by_cases h4 : a = 4
  · subst h4; simp [arith_Do.f, turntableref04_Do.f, arith_Is.f, turntableref04_Is.f, arith_Turns.f, turntableref04_Turns.f]
  by_cases h5 : a = 5
  · subst h5
    by_cases hc : c = 0
    · subst hc; simp [arith_Do.f, turntableref04_Do.f, turntableref04_Do.j0, arith_Is.f, turntableref04_Is.f, arith_Turns.f, turntableref04_Turns.f]
    · by_cases hc1 : c = -1
      · subst hc1; simp [arith_Do.f, turntableref04_Do.f, turntableref04_Do.j0, turntableref04_quotient.f, arith_Is.f, turntableref04_Is.f, arith_Turns.f, turntableref04_Turns.f]
      · simp [arith_Do.f, turntableref04_Do.f, turntableref04_Do.j0, turntableref04_quotient.f, arith_Is.f, turntableref04_Is.f, arith_Turns.f, turntableref04_Turns.f, hc, hc1]
  by_cases h6 : a = 6
  · subst h6
    by_cases hc : b < c <;> simp [arith_Do.f, turntableref04_Do.f, turntableref04_Do.j0, arith_flag.f, arith_Is.f, turntableref04_Is.f, arith_Turns.f, turntableref04_Turns.f, hc]
  by_cases h7 : a = 7
  · subst h7
    by_cases hc : b = c <;> simp [arith_Do.f, turntableref04_Do.f, turntableref04_Do.j0, arith_flag.f, arith_Is.f, turntableref04_Is.f, arith_Turns.f, turntableref04_Turns.f, hc]
  have hr : ¬ (2 ≤ a ∧ a ≤ 7) := by omega
  by_cases h9 : a ≥ 2
  · have h10 : ¬ a ≤ 7 := by omega
    simp [arith_Do.f, turntableref04_Do.f, turntableref04_Do.j0, arith_Is.f, turntableref04_Is.f, arith_Turns.f, turntableref04_Turns.f, h2, h3, h4, h5, h6, h7, h9, h10]
  · simp [arith_Do.f, turntableref04_Do.f, turntableref04_Do.j0, arith_Is.f, turntableref04_Is.f, arith_Turns.f, turntableref04_Turns.f, h2, h3, h4, h5, h6, h7, h9]

end Go.Proofs.Ythnkgnbemmndgaa.Pure
