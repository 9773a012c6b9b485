/- What is reached is one of the first, or pointed to by what was met ahead, and what it points to is reached: the acts answer. -/
import Derived.Test.YtcpomchijogblaaSaidPoolReaches
import Derived.Test.YtcpomchijogblaaActsPure
namespace Go.Proofs.Ytcpomchijogblaa.Pure
open Go.RowKit Go.Proofs.Ytcpomchijogblaa.PPo Go.Proofs.Ytcpomchijogblaa.PoolReachesSaid Go.Proofs.YtcpomchijogblaaW.PrintWords Go.Proofs.YtcpomchijogblaaW.PrintLast Go.Proofs.YtcpomchijogblaaW.PrintMore Go.Proofs.Ytcpomchijogblaa.Str
set_option linter.unusedVariables false

theorem PoolReaches : PoolReaches.Good := by
  intro a0 a1 h0 h1
  by_cases hl : 60 < a0.length ∨ 20 < a1.length
  · exact ⟨0, if_pos hl⟩
  · obtain ⟨L, ho, he⟩ := acts_any true a0 [] (by simp) (fun x hx => (wf64 (h0.2 x hx).2.1).1)
    have he2 : Ev (fun k => turntablelaw12_PoolReaches.f k a0 a1) true := by
      unfold turntablelaw12_PoolReaches.f
      simp only [if_neg hl]
      exact Ev.bind he (Ev.now _)
    exact he2.rounds
end Go.Proofs.Ytcpomchijogblaa.Pure
