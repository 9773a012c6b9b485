/- An operation that turns makes the same of any two numbers the other way round; each operation on numbers that does not turn makes something else of 7 and 2 than of 2 and 7; no conditions. -/
import Derived.Test.YthnkgnbemmndgaaPArx5
import Derived.Test.YthnkgnbemmndgaaPureArithDoes
namespace Go.Proofs.Ythnkgnbemmndgaa.Pure
open Go.RowKit Go.Proofs.Ythnkgnbemmndgaa.PAr Go.Proofs.YthnkgnbemmndgaaW.PrintWords Go.Proofs.YthnkgnbemmndgaaW.PrintLast

theorem ArithTurns : turntablelaw04_ArithTurns.Pure := by
  intro a b c _ _ _
  refine ⟨20, ?_⟩
  simp only [turntablelaw04_ArithTurns.f, arith_works]
  by_cases h2 : a = 2
  · subst h2; simp [arith_Do.f, arith_Turns.f, Int.add_comm]
  by_cases h4 : a = 4
  · subst h4; simp [arith_Do.f, arith_Turns.f, Int.mul_comm]
  by_cases h7 : a = 7
  · subst h7
    by_cases hc : b = c
    · subst hc; simp [arith_Do.f, arith_Turns.f, arith_flag.f]
    · have hc' : ¬ c = b := fun h => hc h.symm
      simp [arith_Do.f, arith_Turns.f, arith_flag.f, hc, hc']
  by_cases h9 : a = 9
  · subst h9; simp [arith_Do.f, arith_Turns.f]
  by_cases h3 : a = 3
  · subst h3
    have e1 : arith_Do.f 3 7 2 = some (5, 0) := by decide +kernel
    have e2 : arith_Do.f 3 2 7 = some (-5, 0) := by decide +kernel
    simp [arith_Turns.f, arith_Is.f, e1, e2]
  by_cases h5 : a = 5
  · subst h5
    have e1 : arith_Do.f 5 7 2 = some (3, 0) := by decide +kernel
    have e2 : arith_Do.f 5 2 7 = some (0, 0) := by decide +kernel
    simp [arith_Turns.f, arith_Is.f, e1, e2]
  by_cases h6 : a = 6
  · subst h6
    have e1 : arith_Do.f 6 7 2 = some (0, 0) := by decide +kernel
    have e2 : arith_Do.f 6 2 7 = some (1, 0) := by decide +kernel
    simp [arith_Turns.f, arith_Is.f, e1, e2]
  simp [arith_Turns.f, arith_Is.f, h2, h3, h4, h5, h6, h7, h9]

end Go.Proofs.Ythnkgnbemmndgaa.Pure
