/- What is stored is loaded, and no other slot is changed: the acts, and the reference's look at a shape, answer. -/
import Derived.Test.YtcpomchijogblaaSaidPoolKeeps
import Derived.Test.YtcpomchijogblaaActsPure
namespace Go.Proofs.Ytcpomchijogblaa.Pure
open Go.RowKit Go.Proofs.Ytcpomchijogblaa.PPo Go.Proofs.Ytcpomchijogblaa.PoolKeepsSaid Go.Proofs.YtcpomchijogblaaW.PrintWords Go.Proofs.YtcpomchijogblaaW.PrintLast Go.Proofs.YtcpomchijogblaaW.PrintMore Go.Proofs.Ytcpomchijogblaa.Str
set_option linter.unusedVariables false

theorem PoolKeeps : PoolKeeps.Good := by
  intro a0 a1 a2 a3 h0 h1 h2 h3
  by_cases h60 : 60 < a0.length
  · exact ⟨0, if_pos h60⟩
  · obtain ⟨L, ho, he⟩ := acts_any false a0 [] (by simp) (fun x hx => (wf64 (h0.2 x hx).2.1).1)
    obtain ⟨b, hb⟩ := lawPointer_any (shapeP L a2).f0 (shapeP L a2).f1 a3 (shapeP_ok ho a2)
    have he2 : Ev (fun k => turntablelaw12_PoolKeeps.f k a0 a1.f0 a1.f1 a1.f2 a1.f3 a1.f4 a1.f5 a2 a3) true := by
      unfold turntablelaw12_PoolKeeps.f
      simp only [if_neg h60, if_pos (And.intro (wf64 h1.2.1).1 (wf64 h2).1)]
      exact Ev.bind he (Ev.bind hb (Ev.now _))
    exact he2.rounds
end Go.Proofs.Ytcpomchijogblaa.Pure
