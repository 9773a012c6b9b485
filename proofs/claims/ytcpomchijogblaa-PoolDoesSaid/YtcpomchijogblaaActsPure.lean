/- The acts answer, whatever they are: what they leave are objects that may be. -/
import Derived.Test.YtcpomchijogblaaHActs
namespace Go.Proofs.Ytcpomchijogblaa.PPo
open Go.RowKit Go.Proofs.YtcpomchijogblaaW.PrintWords Go.Proofs.YtcpomchijogblaaW.PrintLast Go.Proofs.YtcpomchijogblaaW.PrintMore Go.Proofs.Ytcpomchijogblaa.Str
set_option linter.unusedVariables false
set_option linter.unusedSimpArgs false

theorem ob_new {n m : Int} (h0 : 0 ≤ n) (h1 : n ≤ 16) : ObOk (⟨⟨n, m⟩, List.replicate n.toNat 0⟩ : S73) := ⟨h0, h1, by simp⟩
theorem ob_store {L : List S73} (ho : ∀ x ∈ L, ObOk x) (id s x : Int) : ∀ y ∈ storeL L id s x, ObOk y := by
  by_cases hi : (id - 1).toNat < L.length
  · intro y hy
    unfold storeL at hy
    rcases List.mem_or_eq_of_mem_set hy with hy | rfl
    · exact ho y hy
    · have := ob_at ho hi
      exact ⟨this.lo, this.hi, by show (List.set _ _ _).length = _; rw [List.length_set]; exact this.len⟩
  · rw [storeL_out hi]
    exact ho
theorem act_any (fc : Bool) (L : List S73) (ho : ∀ x ∈ L, ObOk x) (x : S25) (hx : -9223372036854775808 ≤ x.f1) : ∃ L1, (∀ y ∈ L1, ObOk y) ∧ Ev (fun k => actP k fc L x) L1 := by
  by_cases h0 : x.f0 = 0
  · obtain ⟨n, m, hn0, hn1, he⟩ := lawShape_any x.f2 x.f5
    refine ⟨L ++ [⟨⟨n, m⟩, List.replicate n.toNat 0⟩], ?_, ?_⟩
    · intro y hy
      rcases List.mem_append.1 hy with hy | hy
      · exact ho y hy
      · rw [List.mem_singleton.1 hy]
        exact ob_new hn0 hn1
    · unfold actP
      simp only [if_pos h0]
      refine Ev.bind he ?_
      simp only [if_pos (And.intro hn0 hn1)]
      exact Ev.now _
  · refine ⟨if trapP L x.f1 x.f2 (x.f3 || fc) = 0 then storeL L x.f1 x.f2 x.f4 else L, ?_, ?_⟩
    · split
      · exact ob_store ho _ _ _
      · exact ho
    · unfold actP
      simp only [if_neg h0, if_pos hx]
      exact Ev.now _
theorem acts_any (fc : Bool) : ∀ (l : List S25) (L : List S73), (∀ x ∈ L, ObOk x) → (∀ x ∈ l, -9223372036854775808 ≤ x.f1) → ∃ L1, (∀ y ∈ L1, ObOk y) ∧ Ev (fun k => actsP k fc l L) L1
  | [], L, ho, _ => ⟨L, ho, Ev.now _⟩
  | x :: l, L, ho, hl => by
    obtain ⟨L1, ho1, he1⟩ := act_any fc L ho x (hl x (by simp))
    obtain ⟨L2, ho2, he2⟩ := acts_any fc l L1 ho1 (fun y hy => hl y (by simp [hy]))
    exact ⟨L2, ho2, Ev.bind he1 he2⟩
theorem shapeP_ok {L : List S73} (ho : ∀ x ∈ L, ObOk x) (id : Int) : (shapeP L id).f0 ≤ 16 := by
  unfold shapeP
  split
  · decide
  · exact (ob_at ho (by omega)).hi
theorem wf64 {x : Int} (h : (Lit.int .i64 x).wf = true) : -9223372036854775808 ≤ x ∧ x ≤ 9223372036854775807 := by
  simpa [Lit.wf, IntKind.min, IntKind.max, IntKind.bits, IntKind.signed] using h
end Go.Proofs.Ytcpomchijogblaa.PPo
