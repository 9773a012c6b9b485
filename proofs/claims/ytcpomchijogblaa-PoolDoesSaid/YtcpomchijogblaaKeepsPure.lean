/- A shape out of two numbers (turntablelaw12.Shape), and whether a slot of it holds a pointer (turntableref03.Pointer): each answers, whatever it is asked. -/
import Derived.Test.YtcpomchijogblaaPPox1
import Derived.Test.YtcpomchijogblaaStr
namespace Go.Proofs.Ytcpomchijogblaa.PPo
open Go.RowKit Go.Proofs.YtcpomchijogblaaW.PrintWords Go.Proofs.YtcpomchijogblaaW.PrintLast Go.Proofs.YtcpomchijogblaaW.PrintMore Go.Proofs.Ytcpomchijogblaa.Str
set_option linter.unusedVariables false
set_option linter.unusedSimpArgs false

theorem lawShape_l0 (n : Int) (h0 : 0 ≤ n) : ∀ (d : Nat) (m i : Int), i = n + d → i ≤ 16 → ∃ r, Ev (fun k => turntablelaw12_Shape.l0 k n m i) (n, r) := by
  intro d
  induction d with
  | zero => intro m i hi h16; exact ⟨m, Ev.step (fun k => by simp only [turntablelaw12_Shape.l0]; rfl) (ev_neg (by omega) (Ev.now _))⟩
  | succ d ih =>
    intro m i hi h16
    have hw : wrap64 (i - 1) = i - 1 := w64 (by omega) (by omega)
    by_cases hc : m ≥ shl .i64 1 (i - 1)
    · obtain ⟨r, hr⟩ := ih (wrap64 (m - shl .i64 1 (i - 1))) (i - 1) (by omega) (by omega)
      refine ⟨r, Ev.step (fun k => by simp only [turntablelaw12_Shape.l0]; rfl) (ev_pos (by omega) ?_)⟩
      rw [hw]
      exact ev_pos (by omega) (ev_pos hc hr)
    · obtain ⟨r, hr⟩ := ih m (i - 1) (by omega) (by omega)
      refine ⟨r, Ev.step (fun k => by simp only [turntablelaw12_Shape.l0]; rfl) (ev_pos (by omega) ?_)⟩
      rw [hw]
      exact ev_pos (by omega) (ev_neg hc hr)
theorem lawShape_any (a b : Int) : ∃ n m, 0 ≤ n ∧ n ≤ 16 ∧ Ev (fun k => turntablelaw12_Shape.f k a b) (n, m) := by
  have hu : IntKind.u64.wrap a = a % 18446744073709551616 := by simp [IntKind.wrap, IntKind.bits, IntKind.signed]
  have ht : Int.tmod (IntKind.u64.wrap a) 17 = (a % 18446744073709551616) % 17 := by rw [hu, Int.tmod_eq_emod_of_nonneg (by omega)]
  have hw : wrap64 (Int.tmod (IntKind.u64.wrap a) 17) = (a % 18446744073709551616) % 17 := by rw [ht, w64 (by omega) (by omega)]
  obtain ⟨r, hr⟩ := lawShape_l0 ((a % 18446744073709551616) % 17) (by omega) (16 - (a % 18446744073709551616) % 17).toNat (wrap64 b) 16 (by omega) (by omega)
  refine ⟨(a % 18446744073709551616) % 17, r, by omega, by omega, ?_⟩
  unfold turntablelaw12_Shape.f
  rw [hw]
  exact hr
theorem power_l0 (n : Nat) (hn : n ≤ 20) : ∀ (d i : Nat), n = i + d → Ev (fun k => turntableref03_power.l0 k (n : Int) ((2 ^ i : Nat) : Int) (i : Int)) ((2 ^ n : Nat) : Int) := by
  intro d
  induction d with
  | zero =>
    intro i hi
    obtain rfl : n = i := by omega
    exact Ev.step (fun k => by simp only [turntableref03_power.l0]; rfl) (ev_neg (by omega) (Ev.now _))
  | succ d ih =>
    intro i hi
    have hp : 2 ^ i ≤ 2 ^ 20 := Nat.pow_le_pow_right (by omega) (by omega)
    have h1 : wrap64 (((2 ^ i : Nat) : Int) * 2) = ((2 ^ (i + 1) : Nat) : Int) := by
      rw [Nat.pow_succ]
      generalize 2 ^ i = q at hp ⊢
      rw [w64 (by omega) (by omega)]
      omega
    have h2 : wrap64 ((i : Int) + 1) = ((i + 1 : Nat) : Int) := by rw [w64 (by omega) (by omega)]; omega
    have := ih (i + 1) (by omega)
    rw [← h1, ← h2] at this
    exact Ev.step (fun k => by simp only [turntableref03_power.l0]; rfl) (ev_pos (by omega) this)
theorem lawPointer_any (sl mk s : Int) (h : sl ≤ 16) : ∃ b, Ev (fun k => turntableref03_Pointer.f k sl mk s) b := by
  unfold turntableref03_Pointer.f
  by_cases h0 : s < 0
  · exact ⟨false, ev_pos h0 (Ev.now _)⟩
  · by_cases h1 : s ≥ sl
    · exact ⟨false, ev_neg h0 (ev_pos h1 (Ev.now _))⟩
    · obtain ⟨n, rfl⟩ : ∃ n : Nat, s = n := ⟨s.toNat, by omega⟩
      have hp := power_l0 n (by omega) n 0 (by omega)
      have hpos : 0 < 2 ^ n := Nat.pow_pos (by omega)
      exact ⟨_, ev_neg h0 (ev_neg h1 (Ev.bind (g := fun k => turntableref03_power.f k (n : Int)) hp (ev_neg (by omega) (Ev.now _))))⟩
end Go.Proofs.Ytcpomchijogblaa.PPo
