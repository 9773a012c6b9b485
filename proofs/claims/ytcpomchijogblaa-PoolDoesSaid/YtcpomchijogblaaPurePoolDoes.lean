/- Each call answers what the chapter says: the walk shows it of every act. -/
import Derived.Test.YtcpomchijogblaaSaidPoolDoes
import Derived.Test.YtcpomchijogblaaActsPure
namespace Go.Proofs.Ytcpomchijogblaa.Pure
open Go.RowKit Go.Proofs.Ytcpomchijogblaa.PPo Go.Proofs.Ytcpomchijogblaa.PoolDoesSaid Go.Proofs.YtcpomchijogblaaW.PrintWords Go.Proofs.YtcpomchijogblaaW.PrintLast Go.Proofs.YtcpomchijogblaaW.PrintMore Go.Proofs.Ytcpomchijogblaa.Str
set_option linter.unusedVariables false

theorem PoolDoes : PoolDoes.Good := by
  intro a0 a1 a2 h0 h1 h2
  refine if_pos ⟨fun x hx => ⟨wf64 (h0.2 x hx).2.1, ?_⟩, wf64 h1⟩
  have h := (h0.2 x hx).2.2.2.2.2
  have h2 : 0 ≤ x.f5 ∧ x.f5 ≤ 65535 := by simpa [Lit.wf, IntKind.min, IntKind.max, IntKind.signed, IntKind.bits] using h
  exact ⟨h2.1, by omega⟩
end Go.Proofs.Ytcpomchijogblaa.Pure
