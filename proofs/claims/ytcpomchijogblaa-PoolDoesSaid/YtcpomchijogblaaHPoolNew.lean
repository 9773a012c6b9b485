/- A new pool; a slot that is written. -/
import Derived.Test.YtcpomchijogblaaHPoolUse
namespace Go.Proofs.Ytcpomchijogblaa.PPo
open Go.RowKit Go.Proofs.YtcpomchijogblaaW.PrintWords Go.Proofs.YtcpomchijogblaaW.PrintLast Go.Proofs.YtcpomchijogblaaW.PrintMore Go.Proofs.Ytcpomchijogblaa.Str
set_option linter.unusedVariables false
set_option linter.unusedSimpArgs false

set_option maxHeartbeats 4000000 in
theorem pool_New.calls (w : World) : Calls Try.prog 11 #[] w fun e w' => ∃ g, e = .returned (.pointer (some ⟨g, 0, none⟩)) ∧ PoolD w.heap.size (fun k => w.heap.size ≤ k) w' g (.slice none 0 0) [] [] 0 ∧ Below w.heap.size w w' := by
  have hu70 := Try.underlying70
  go_enter Try.func11, Try.ntmps11
  go_wp2
  go_ret
  refine ⟨_, rfl, ⟨blk_new w _, Nat.le_refl _, Nat.le_refl _, Kd.R_nil _ _ _ _ _, rfl, List.nodup_nil, by simp, by simp⟩, below_alloc (Below.refl _ _) _⟩

/-- The objects, a slot written. -/
def storeL (L : List S73) (id s x : Int) : List S73 := L.set (id - 1).toNat ⟨(L.getD (id - 1).toNat z73).f0, (L.getD (id - 1).toNat z73).f1.set s.toNat x⟩
theorem cellsI_set (c : List Int) (j : Nat) (x : Int) : (cellsI c).setIfInBounds j (.int .i64 x) = cellsI (c.set j x) := by
  unfold cellsI
  rw [List.map_set, List.setIfInBounds_toArray]
theorem raw_set : ∀ (l : List S73) (bs : List Nat) (i : Nat) (c : List Int), c.length = (l.getD i z73).f1.length → raw (l.set i ⟨(l.getD i z73).f0, c⟩) bs = raw l bs
  | [], _, _, _, _ => rfl
  | x :: l, [], _, _, _ => by cases ‹Nat› <;> rfl
  | x :: l, b :: bs, 0, c, h => by
    show (x.f0, b, c.length) :: raw l bs = (x.f0, b, x.f1.length) :: raw l bs
    rw [show c.length = x.f1.length from h]
  | x :: l, b :: bs, i + 1, c, h => by
    show (x.f0, b, x.f1.length) :: raw (l.set i ⟨(l.getD i z73).f0, c⟩) bs = (x.f0, b, x.f1.length) :: raw l bs
    rw [raw_set l bs i c h]
theorem PoolD.stored {lo : Nat} {ok : Nat → Prop} {W : World} {g : Nat} {v : Value} {bs : List Nat} {L : List S73} {n : Int} (h : PoolD lo ok W g v bs L n) {id s : Int} {q : Bool} (ht : trapP L id s q = 0) (x : Int) :
    PoolD lo ok (W.setCell ⟨bs.getD (id - 1).toNat 0, s.toNat, none⟩ (.int .i64 x)) g v bs (storeL L id s x) n := by
  obtain ⟨hb, hj⟩ := h.slot ht
  obtain ⟨h1, h2, -, -, -⟩ := trapP_zero ht
  have hi : (id - 1).toNat < L.length := by omega
  unfold storeL
  generalize (id - 1).toNat = i at hb hj hi ⊢
  generalize s.toNat = j at hj ⊢
  have hfar : ∀ k, k ≠ bs.getD i 0 → (W.setCell ⟨bs.getD i 0, j, none⟩ (.int .i64 x)).heap[k]? = W.heap[k]? := fun k hk => Below.heap_setCell W ⟨bs.getD i 0, j, none⟩ (.int .i64 x) k hk
  refine ⟨?_, h.ge, h.okg, ?_, by rw [List.length_set]; exact h.len, h.nod, ?_, ?_⟩
  · rw [hfar g (fun e => by rw [← e, h.top] at hb; injection hb with hb; injection hb with _ hb; exact absurd hb (by decide))]
    exact h.top
  · rw [raw_set L bs i _ (List.length_set ..)]
    exact Kd.R_set h.row hb (fun q hq => by rw [List.mem_singleton.1 hq]; decide) j _
  · intro y hy
    rcases List.mem_or_eq_of_mem_set hy with hy | rfl
    · exact h.ob y hy
    · have := h.ob _ (by rw [List.getD_eq_getElem?_getD, List.getElem?_eq_getElem hi]; exact List.getElem_mem hi : L.getD i z73 ∈ L)
      exact ⟨this.lo, this.hi, by show (List.set _ _ _).length = _; rw [List.length_set]; exact this.len⟩
  · intro k hk
    rw [List.length_set] at hk
    obtain ⟨g1, g2, g3⟩ := h.slots k hk
    refine ⟨g1, g2, ?_⟩
    by_cases e : k = i
    · subst e
      have e1 : (L.set k ⟨(L.getD k z73).f0, (L.getD k z73).f1.set j x⟩).getD k z73 = ⟨(L.getD k z73).f0, (L.getD k z73).f1.set j x⟩ := by
        rw [List.getD_eq_getElem?_getD, List.getElem?_set_self (by omega)]; rfl
      rw [e1, ← cellsI_set]
      exact blk_set g3 j _
    · have e1 : (L.set i ⟨(L.getD i z73).f0, (L.getD i z73).f1.set j x⟩).getD k z73 = L.getD k z73 := by
        rw [List.getD_eq_getElem?_getD, List.getElem?_set_ne (fun q => e q.symm), ← List.getD_eq_getElem?_getD]
      rw [e1, hfar]
      · exact g3
      · intro q
        have hk2 : k < bs.length := by have := h.len; omega
        have hi2 : i < bs.length := by have := h.len; omega
        rw [List.getD_eq_getElem?_getD, List.getD_eq_getElem?_getD, List.getElem?_eq_getElem hk2, List.getElem?_eq_getElem hi2] at q
        replace q : bs[k] = bs[i] := q
        rcases Nat.lt_or_gt_of_ne e with hlt | hlt
        · exact (List.pairwise_iff_getElem.1 h.nod) k i hk2 hi2 hlt q
        · exact (List.pairwise_iff_getElem.1 h.nod) i k hi2 hk2 hlt q.symm
end Go.Proofs.Ytcpomchijogblaa.PPo
