/- pool.Load, pool.Store, pool.Slot: what they answer, and what they write. -/
import Derived.Test.YtcpomchijogblaaHPoolAt
namespace Go.Proofs.Ytcpomchijogblaa.PPo
open Go.RowKit Go.Proofs.YtcpomchijogblaaW.PrintWords Go.Proofs.YtcpomchijogblaaW.PrintLast Go.Proofs.YtcpomchijogblaaW.PrintMore Go.Proofs.Ytcpomchijogblaa.Str
set_option linter.unusedVariables false
set_option linter.unusedSimpArgs false

theorem trapP_zero {L : List S73} {id s : Int} {q : Bool} (h : trapP L id s q = 0) : 1 ≤ id ∧ id ≤ (L.length : Int) ∧ 0 ≤ s ∧ s < (L.getD (id - 1).toNat z73).f0.f0 ∧ ptrB (L.getD (id - 1).toNat z73).f0.f0 (L.getD (id - 1).toNat z73).f0.f1 s = q := by
  unfold trapP at h
  by_cases h0 : id = 0
  · rw [if_pos h0] at h; omega
  rw [if_neg h0] at h
  by_cases h1 : id < 0 ∨ (L.length : Int) < id
  · rw [if_pos h1] at h; omega
  rw [if_neg h1] at h
  by_cases h2 : s < 0 ∨ (L.getD (id - 1).toNat z73).f0.f0 ≤ s ∨ ptrB (L.getD (id - 1).toNat z73).f0.f0 (L.getD (id - 1).toNat z73).f0.f1 s ≠ q
  · rw [if_pos h2] at h; omega
  · have h3 : ptrB (L.getD (id - 1).toNat z73).f0.f0 (L.getD (id - 1).toNat z73).f0.f1 s = q := Decidable.byContradiction fun h => h2 (.inr (.inr h))
    exact ⟨by omega, by omega, Decidable.byContradiction fun h => h2 (.inl (by omega)), Decidable.byContradiction fun h => h2 (.inr (.inl (by omega))), h3⟩
theorem trapP_range (L : List S73) (id s : Int) (q : Bool) : trapP L id s q = 0 ∨ trapP L id s q = 1 ∨ trapP L id s q = 2 := by
  unfold trapP
  split
  · exact .inr (.inl rfl)
  · split
    · exact .inr (.inr rfl)
    · split
      · exact .inr (.inr rfl)
      · exact .inl rfl
theorem cellsI_get (c : List Int) (j : Nat) (h : j < c.length) : (cellsI c)[j]? = some (.int .i64 (c.getD j 0)) := by
  unfold cellsI
  rw [List.getElem?_toArray, List.getElem?_map, List.getElem?_eq_getElem h, List.getD_eq_getElem?_getD, List.getElem?_eq_getElem h]
  rfl
/-- The cell of a slot that is there. -/
theorem PoolD.slot {lo : Nat} {ok : Nat → Prop} {W : World} {g : Nat} {v : Value} {bs : List Nat} {L : List S73} {n : Int} (h : PoolD lo ok W g v bs L n) {id s : Int} {q : Bool} (ht : trapP L id s q = 0) :
    W.heap[bs.getD (id - 1).toNat 0]? = some (.cells (cellsI (L.getD (id - 1).toNat z73).f1) 2 (0, 0)) ∧ s.toNat < (L.getD (id - 1).toNat z73).f1.length := by
  obtain ⟨h1, h2, h3, h4, -⟩ := trapP_zero ht
  have hi : (id - 1).toNat < L.length := by omega
  have ho := h.ob _ (by rw [List.getD_eq_getElem?_getD, List.getElem?_eq_getElem hi]; exact List.getElem_mem hi : L.getD (id - 1).toNat z73 ∈ L)
  exact ⟨(h.slots _ hi).2.2, by rw [ho.len]; omega⟩

/-- What a load answers. -/
def loadP (L : List S73) (id s : Int) (q : Bool) : Int := if trapP L id s q = 0 then (L.getD (id - 1).toNat z73).f1.getD s.toNat 0 else 0

section
variable {lo : Nat} {ok : Nat → Prop} {g : Nat} {v : Value} {bs : List Nat} {L : List S73} {n : Int}
set_option maxHeartbeats 4000000 in
set_option maxRecDepth 100000 in
theorem pool_Load.calls (id s : Int) (q : Bool) (hid : -9223372036854775808 ≤ id) (w : World) (hP : PoolD lo ok w g v bs L n) :
    Calls Try.prog 17 #[.pointer (some ⟨g, 0, none⟩), .int .i64 id, .int .i64 s, .bool q] w fun e w' => e = .returned (.tuple #[.int .i64 (loadP L id s q), .int .i64 (trapP L id s q)]) ∧ Below w.heap.size w w' := by
  have hA := pool_at.calls id s q hid w hP
  have hS := fun ht : trapP L id s q = 0 => hP.slot (q := q) ht
  unfold loadP
  by_cases ht : trapP L id s q = 0
  · obtain ⟨hb, hj⟩ := hS ht
    rw [if_pos ht]
    rw [ht] at hA ⊢
    clear hS ht
    generalize bs.getD (id - 1).toNat 0 = b at hA hb
    generalize (L.getD (id - 1).toNat z73).f1 = cs at hb hj ⊢
    have hcell := cellsI_get cs s.toNat hj
    generalize cs.getD s.toNat 0 = y at hcell ⊢
    have HA := Aside0.mk hA
    have HBk := Aside0.mk hb
    have HC := Aside0.mk hcell
    clear hA hb hcell hj
    go_enter Try.func17, Try.ntmps17
    go_wp2_with fail
    refine HA.out.mono ?_
    rintro e w1 ⟨r, rfl, hr, hb1⟩
    obtain rfl : r = .pointer (some ⟨b, s.toNat, none⟩) := by first | exact hr rfl | exact hr trivial | exact hr
    have hc1 : w1.cell? ⟨b, s.toNat, none⟩ = some (.int .i64 y) := (blk_cell (blk_below HBk.out hb1) s.toNat).trans HC.out
    have HB := Aside0.mk hb1
    clear hb1 hr
    go_wp2
    go_ret2
    exact ⟨rfl, HB.out⟩
  · rw [if_neg ht]
    have hz : (trapP L id s q != 0) = true := bne_iff_ne.mpr ht
    clear hS ht
    generalize trapP L id s q = t at hA hz ⊢
    have HA := Aside0.mk hA
    clear hA
    go_enter Try.func17, Try.ntmps17
    go_wp2_with fail
    refine HA.out.mono ?_
    rintro e w1 ⟨r, rfl, -, hb1⟩
    have HB := Aside0.mk hb1
    clear hb1
    go_wp2
    go_ret2
    exact ⟨rfl, HB.out⟩

set_option maxHeartbeats 4000000 in
set_option maxRecDepth 100000 in
theorem pool_Store.calls (id s : Int) (q : Bool) (x : Int) (hid : -9223372036854775808 ≤ id) (w : World) (hP : PoolD lo ok w g v bs L n) :
    Calls Try.prog 14 #[.pointer (some ⟨g, 0, none⟩), .int .i64 id, .int .i64 s, .bool q, .int .i64 x] w fun e w' => e = .returned (.int .i64 (trapP L id s q)) ∧ ∃ w1, Below w.heap.size w w1 ∧ w' = if trapP L id s q = 0 then w1.setCell ⟨bs.getD (id - 1).toNat 0, s.toNat, none⟩ (.int .i64 x) else w1 := by
  have hA := pool_at.calls id s q hid w hP
  have hS := fun ht : trapP L id s q = 0 => hP.slot (q := q) ht
  by_cases ht : trapP L id s q = 0
  · obtain ⟨hb, hj⟩ := hS ht
    simp only [if_pos ht]
    rw [ht] at hA ⊢
    clear hS ht
    generalize bs.getD (id - 1).toNat 0 = b at hA hb ⊢
    generalize (L.getD (id - 1).toNat z73).f1 = cs at hb hj
    have hcell := cellsI_get cs s.toNat hj
    generalize cs.getD s.toNat 0 = y at hcell
    have HA := Aside0.mk hA
    have HBk := Aside0.mk hb
    have HC := Aside0.mk hcell
    clear hA hb hcell hj
    go_enter Try.func14, Try.ntmps14
    go_wp2_with fail
    refine HA.out.mono ?_
    rintro e w1 ⟨r, rfl, hr, hb1⟩
    obtain rfl : r = .pointer (some ⟨b, s.toNat, none⟩) := by first | exact hr rfl | exact hr trivial | exact hr
    have hc1 : w1.cell? ⟨b, s.toNat, none⟩ = some (.int .i64 y) := (blk_cell (blk_below HBk.out hb1) s.toNat).trans HC.out
    have hf1 : w1.frozen? ⟨b, s.toNat, none⟩ = false := blk_frozen (blk_below HBk.out hb1) s.toNat
    have HB := Aside0.mk hb1
    clear hb1 hr
    go_wp2
    go_ret
    exact ⟨rfl, w1, HB.out, rfl⟩
  · simp only [if_neg ht]
    have hz : (trapP L id s q != 0) = true := bne_iff_ne.mpr ht
    clear hS ht
    generalize trapP L id s q = t at hA hz ⊢
    have HA := Aside0.mk hA
    clear hA
    go_enter Try.func14, Try.ntmps14
    go_wp2_with fail
    refine HA.out.mono ?_
    rintro e w1 ⟨r, rfl, -, hb1⟩
    have HB := Aside0.mk hb1
    clear hb1
    go_wp2
    go_ret
    exact ⟨rfl, w1, HB.out, rfl⟩

/-- What pool.Slot answers. -/
def slotP (L : List S73) (id s : Int) : Int := if trapP L id s true = 2 then trapP L id s false else trapP L id s true
set_option maxHeartbeats 4000000 in
set_option maxRecDepth 100000 in
theorem pool_Slot.calls (id s : Int) (hid : -9223372036854775808 ≤ id) (w : World) (hP : PoolD lo ok w g v bs L n) :
    Calls Try.prog 26 #[.pointer (some ⟨g, 0, none⟩), .int .i64 id, .int .i64 s] w fun e w' => e = .returned (.int .i64 (slotP L id s)) ∧ Below w.heap.size w w' := by
  have hA := pool_at.calls id s true hid w hP
  have hA2 := fun W (h : Below w.heap.size w W) => pool_at.calls id s false hid W (hP.below h)
  unfold slotP
  generalize trapP L id s true = t at hA ⊢
  generalize trapP L id s false = t2 at hA2 ⊢
  by_cases ht : t = 2
  · rw [if_pos ht]
    subst ht
    have HA := Aside0.mk hA
    have HA2 := Aside0.mk hA2
    clear hA hA2
    go_enter Try.func26, Try.ntmps26
    go_wp2_with fail
    refine HA.out.mono ?_
    rintro e w1 ⟨r, rfl, -, hb1⟩
    have HB := Aside0.mk hb1
    clear hb1
    go_wp2_with fail
    refine (HA2.out w1 HB.out).mono ?_
    rintro e w2 ⟨r2, rfl, -, hb2⟩
    have HB2 := Aside0.mk (below_step HB.out hb2)
    clear hb2
    go_wp2
    go_ret
    exact ⟨rfl, HB2.out⟩
  · rw [if_neg ht]
    have hz : (t == 2) = false := beq_eq_false_iff_ne.mpr ht
    have HA := Aside0.mk hA
    clear hA hA2 ht
    go_enter Try.func26, Try.ntmps26
    go_wp2_with fail
    refine HA.out.mono ?_
    rintro e w1 ⟨r, rfl, -, hb1⟩
    have HB := Aside0.mk hb1
    clear hb1
    go_wp2
    go_ret
    exact ⟨rfl, HB.out⟩
end
end Go.Proofs.Ytcpomchijogblaa.PPo
