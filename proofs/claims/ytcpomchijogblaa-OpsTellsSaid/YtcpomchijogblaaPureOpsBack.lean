/- Each operation of a type that it may be of is found by its word. -/
import Derived.Test.YtcpomchijogblaaPOpx8
import Derived.Test.YtcpomchijogblaaPureOpsApart
namespace Go.Proofs.Ytcpomchijogblaa.Pure
open Go.RowKit Go.Proofs.Ytcpomchijogblaa.POp Go.Proofs.YtcpomchijogblaaW.PrintWords Go.Proofs.YtcpomchijogblaaW.PrintLast
set_option linter.unusedSimpArgs false

theorem back_few : ∀ n : Nat, n < 30 → ∀ t : Nat, t < 4 → turntablelaw05_OpsBack.f 40 (n : Int) (t : Int) = some true := by decide +kernel

theorem may_none {op t : Int} (h : t < 0 ∨ 3 < t) : turntableref05_May.f op t = some false := by
  unfold turntableref05_May.f
  have e0 : (t == 0) = false := beq_eq_false_iff_ne.mpr (by omega)
  have e3 : (t == 3) = false := beq_eq_false_iff_ne.mpr (by omega)
  rw [e0, e3]
  by_cases h1 : op = 20
  · rw [if_pos h1]
    by_cases g : t ≥ 1
    · rw [if_pos g, decide_eq_false (by omega)]
    · rw [if_neg g]
  · rw [if_neg h1]
    by_cases h2 : op = 21
    · rw [if_pos h2]
      by_cases g : t ≥ 0
      · rw [if_pos g, decide_eq_false (by omega)]
      · rw [if_neg g]
    · rw [if_neg h2]
      by_cases h3 : op = 24
      · rw [if_pos h3, if_neg (by omega)]
      · rw [if_neg h3]

theorem back_j0 (a t : Int) : turntablelaw05_OpsBack.j0 40 a t true = some true := by
  simp [turntablelaw05_OpsBack.j0, op_works]

theorem OpsBack : turntablelaw05_OpsBack.Pure := by
  intro a0 a1 _ _
  refine ⟨40, ?_⟩
  by_cases h : a0 < 1
  · unfold turntablelaw05_OpsBack.f
    rw [if_pos h, back_j0]
  · by_cases h2 : a0 > 29
    · unfold turntablelaw05_OpsBack.f
      rw [if_neg h, if_pos h2, back_j0]
    · by_cases ht : a1 < 0 ∨ 3 < a1
      · unfold turntablelaw05_OpsBack.f
        rw [if_neg h, if_neg h2, may_none ht]
        exact back_j0 a0 a1
      · obtain ⟨n, rfl⟩ : ∃ n : Nat, a0 = n := ⟨a0.toNat, by omega⟩
        obtain ⟨t, rfl⟩ : ∃ t : Nat, a1 = t := ⟨a1.toNat, by omega⟩
        exact back_few n (by omega) t (by omega)
end Go.Proofs.Ytcpomchijogblaa.Pure
