/- What a store leaves: traps as they were, the slot that was written, all others as they were. -/
import Derived.Test.YtcpomchijogblaaHPoolNew
namespace Go.Proofs.Ytcpomchijogblaa.PPo
open Go.RowKit Go.Proofs.YtcpomchijogblaaW.PrintWords Go.Proofs.YtcpomchijogblaaW.PrintLast Go.Proofs.YtcpomchijogblaaW.PrintMore Go.Proofs.Ytcpomchijogblaa.Str
set_option linter.unusedVariables false
set_option linter.unusedSimpArgs false

theorem storeL_len (L : List S73) (id s x : Int) : (storeL L id s x).length = L.length := by unfold storeL; rw [List.length_set]
theorem storeL_self {L : List S73} {id s x : Int} (h : (id - 1).toNat < L.length) : (storeL L id s x).getD (id - 1).toNat z73 = ⟨(L.getD (id - 1).toNat z73).f0, (L.getD (id - 1).toNat z73).f1.set s.toNat x⟩ := by
  unfold storeL
  rw [List.getD_eq_getElem?_getD, List.getElem?_set_self h]
  rfl
theorem storeL_far {L : List S73} {id s x : Int} {i : Nat} (h : i ≠ (id - 1).toNat) : (storeL L id s x).getD i z73 = L.getD i z73 := by
  unfold storeL
  rw [List.getD_eq_getElem?_getD, List.getElem?_set_ne (fun q => h q.symm), ← List.getD_eq_getElem?_getD]
theorem storeL_out {L : List S73} {id s x : Int} (h : ¬ (id - 1).toNat < L.length) : storeL L id s x = L := by
  unfold storeL
  rw [List.set_eq_of_length_le (by omega)]
theorem storeL_shape (L : List S73) (id s x : Int) (i : Nat) : ((storeL L id s x).getD i z73).f0 = (L.getD i z73).f0 := by
  by_cases h : (id - 1).toNat < L.length
  · by_cases e : i = (id - 1).toNat
    · subst e
      rw [storeL_self h]
    · rw [storeL_far e]
  · rw [storeL_out h]
theorem trapP_store (L : List S73) (id s x id' s' : Int) (q : Bool) : trapP (storeL L id s x) id' s' q = trapP L id' s' q := by
  unfold trapP
  rw [storeL_len, storeL_shape]
theorem ob_at {L : List S73} (ho : ∀ x ∈ L, ObOk x) {i : Nat} (h : i < L.length) : ObOk (L.getD i z73) := ho _ (by rw [List.getD_eq_getElem?_getD, List.getElem?_eq_getElem h]; exact List.getElem_mem h)
theorem loadP_store_same {L : List S73} (ho : ∀ x ∈ L, ObOk x) {id s : Int} {q : Bool} (ht : trapP L id s q = 0) (x : Int) : loadP (storeL L id s x) id s q = x := by
  obtain ⟨h1, h2, h3, h4, -⟩ := trapP_zero ht
  have hi : (id - 1).toNat < L.length := by omega
  have hl := (ob_at ho hi).len
  unfold loadP
  rw [trapP_store, if_pos ht, storeL_self hi]
  show ((L.getD (id - 1).toNat z73).f1.set s.toNat x).getD s.toNat 0 = x
  rw [List.getD_eq_getElem?_getD, List.getElem?_set_self (by omega)]
  rfl
theorem loadP_store_far {L : List S73} {id s : Int} {q : Bool} (ht : trapP L id s q = 0) (x : Int) {id' s' : Int} (q' : Bool) (h : ¬ (id' = id ∧ s' = s)) : loadP (storeL L id s x) id' s' q' = loadP L id' s' q' := by
  obtain ⟨h1, h2, h3, h4, -⟩ := trapP_zero ht
  unfold loadP
  rw [trapP_store]
  by_cases ht' : trapP L id' s' q' = 0
  · obtain ⟨g1, g2, g3, g4, -⟩ := trapP_zero ht'
    rw [if_pos ht', if_pos ht']
    by_cases e : id' = id
    · subst e
      rw [storeL_self (by omega)]
      show ((L.getD (id' - 1).toNat z73).f1.set s.toNat x).getD s'.toNat 0 = _
      rw [List.getD_eq_getElem?_getD, List.getElem?_set_ne (by omega), ← List.getD_eq_getElem?_getD]
    · rw [storeL_far (by omega)]
  · rw [if_neg ht', if_neg ht']
end Go.Proofs.Ytcpomchijogblaa.PPo
