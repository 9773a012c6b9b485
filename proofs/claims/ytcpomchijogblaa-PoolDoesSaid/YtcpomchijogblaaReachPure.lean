/- What pool.Reach hands back, as a plain function: what is met, one by one. And slices.Clip. -/
import Derived.Test.YtcpomchijogblaaHPoolSmall
namespace Go.Proofs.Ytcpomchijogblaa.PPo
open Go.RowKit Go.Proofs.YtcpomchijogblaaW.PrintWords Go.Proofs.YtcpomchijogblaaW.PrintLast Go.Proofs.YtcpomchijogblaaW.PrintMore Go.Proofs.Ytcpomchijogblaa.Str
set_option linter.unusedVariables false
set_option linter.unusedSimpArgs false

def cnt : List Bool → Nat
  | [] => 0
  | b :: l => (if b = true then 1 else 0) + cnt l
theorem cnt_le : ∀ l : List Bool, cnt l ≤ l.length
  | [] => Nat.le_refl _
  | b :: l => by
    have := cnt_le l
    unfold cnt
    rw [List.length_cons]
    split <;> omega
theorem cnt_set : ∀ (l : List Bool) (j : Nat), j < l.length → l.getD j false = false → cnt (l.set j true) = cnt l + 1
  | [], j, h, _ => by simp at h
  | b :: l, 0, _, h => by
    obtain rfl : b = false := h
    simp [cnt]
    omega
  | b :: l, j + 1, h, h2 => by
    have := cnt_set l j (by simpa using h) (by simpa using h2)
    show (if b = true then 1 else 0) + cnt (l.set j true) = (if b = true then 1 else 0) + cnt l + 1
    omega
theorem cnt_rep : ∀ n : Nat, cnt (List.replicate n false) = 0
  | 0 => rfl
  | n + 1 => by rw [List.replicate_succ]; show 0 + _ = 0; rw [cnt_rep n]
/-- What is met: no more than there are, each an object. -/
structure SOk (N : Nat) (s : List Bool × List Int) : Prop where
  len : s.1.length = N + 1
  cnt : cnt s.1 = s.2.length
  ids : ∀ x ∈ s.2, 1 ≤ x ∧ x ≤ (N : Int)
theorem SOk.short {N : Nat} {s : List Bool × List Int} (h : SOk N s) : s.2.length ≤ N + 1 := by
  rw [← h.cnt, ← h.len]
  exact cnt_le _
theorem SOk.new (N : Nat) : SOk N (List.replicate (N + 1) false, []) := ⟨List.length_replicate, cnt_rep _, by simp⟩
theorem SOk.visit {N : Nat} {s : List Bool × List Int} (h : SOk N s) (id : Int) : SOk N (visit s id) := by
  unfold PPo.visit
  by_cases hv : visM s.1 id = true
  · rw [if_pos hv]
    unfold visM at hv
    simp only [Bool.and_eq_true, decide_eq_true_eq, Bool.not_eq_true'] at hv
    obtain ⟨⟨h1, h2⟩, h3⟩ := hv
    have hl := h.len
    refine ⟨by rw [List.length_set]; exact h.len, ?_, ?_⟩
    · show PPo.cnt (s.1.set id.toNat true) = (s.2 ++ [id]).length
      rw [cnt_set _ _ (by omega) h3, h.cnt, List.length_append]
      rfl
    · intro x hx
      rcases List.mem_append.1 hx with hx | hx
      · exact h.ids x hx
      · rw [List.mem_singleton.1 hx]
        omega
  · rw [if_neg hv]
    exact h
/-- What an object's slots point to, from the j-th on. -/
def slotsS (x : S31) : List Int → Nat → List Bool × List Int → List Bool × List Int
  | [], _, s => s
  | n :: l, j, s => slotsS x l (j + 1) (if ptrB x.f0 x.f1 (j : Int) = true then visit s n else s)
theorem SOk.slots {N : Nat} (x : S31) : ∀ (l : List Int) (j : Nat) (s : List Bool × List Int), SOk N s → SOk N (slotsS x l j s)
  | [], _, _, h => h
  | n :: l, j, s, h => SOk.slots x l (j + 1) _ (by split; exact h.visit n; exact h)
/-- The objects that were met, from the i-th on. -/
def goS (L : List S73) : Nat → Nat → List Bool × List Int → List Bool × List Int
  | 0, _, s => s
  | k + 1, i, s => if i < s.2.length then goS L k (i + 1) (slotsS (L.getD (s.2.getD i 0 - 1).toNat z73).f0 (L.getD (s.2.getD i 0 - 1).toNat z73).f1 0 s) else s
theorem goS_end (L : List S73) (k i : Nat) (s : List Bool × List Int) (h : s.2.length ≤ i) : goS L k i s = s := by
  cases k with
  | zero => rfl
  | succ k => exact if_neg (by omega)
def reachP (L : List S73) (l : List Int) : List Int := (goS L (L.length + 2) 0 (l.foldl visit (List.replicate (L.length + 1) false, []))).2

set_option maxHeartbeats 2000000 in
theorem clip_calls (A : Option Addr) (n c : Nat) (hnc : n ≤ c) (hc : n ≤ 9223372036854775807) (w : World) : Calls Try.prog 62 #[.slice A n c] w fun e w' => e = .returned (.slice A n n) ∧ w' = w := by
  have d1 : (n ≤ c) = True := eq_true hnc
  go_enter Try.func62, Try.ntmps62
  go_wp2
  go_ret
  exact ⟨rfl, rfl⟩
end Go.Proofs.Ytcpomchijogblaa.PPo
