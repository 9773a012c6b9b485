/- What is pure neither traps, nor reads, nor writes, nor is it seen; what ends a block, or writes, is seen; each safepoint is seen. -/
import Derived.Test.YtcpomchijogblaaPOpx8
namespace Go.Proofs.Ytcpomchijogblaa.Pure
open Go.RowKit Go.Proofs.Ytcpomchijogblaa.POp Go.Proofs.YtcpomchijogblaaW.PrintWords Go.Proofs.YtcpomchijogblaaW.PrintLast
set_option linter.unusedSimpArgs false

theorem op_works : turntablelaw05_works.f 39 = some true := by decide +kernel

theorem apart_few : ∀ n : Nat, n < 30 → turntablelaw05_OpsApart.f 40 (n : Int) = some true := by decide +kernel

theorem op_none {a : Int} (h : a < 1 ∨ 29 < a) : ops_of.f a = some (noRow.w, 0, 0, 0, false, false, false, false, false) := by
  unfold ops_of.f opOf
  rw [if_pos h]
  rfl

theorem OpsApart : turntablelaw05_OpsApart.Pure := by
  intro a0 _
  refine ⟨40, ?_⟩
  by_cases h : a0 < 1 ∨ 29 < a0
  · have h1 := op_none h
    have h2 : ops_Safe.f a0 = some false := by
      unfold ops_Safe.f
      rw [if_neg (by omega)]
      have : (a0 == 21) = false := beq_eq_false_iff_ne.mpr (by omega)
      rw [this]
    simp [turntablelaw05_OpsApart.f, turntablelaw05_OpsApart.j0, ops_Pure.f, ops_Ends.f, ops_Writes.f, h1, h2, op_works]
  · obtain ⟨n, rfl⟩ : ∃ n : Nat, a0 = n := ⟨a0.toNat, by omega⟩
    exact apart_few n (by omega)
end Go.Proofs.Ytcpomchijogblaa.Pure
