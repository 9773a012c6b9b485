/- What pool.Reach hands back, plainly: none twice, each one of the first or pointed to by one ahead of it, and what they point to is there. -/
import Derived.Test.YtcpomchijogblaaReachPure
import Derived.Test.YtcpomchijogblaaKeepsLaw
namespace Go.Proofs.Ytcpomchijogblaa.PPo
open Go.RowKit Go.Proofs.YtcpomchijogblaaW.PrintWords Go.Proofs.YtcpomchijogblaaW.PrintLast Go.Proofs.YtcpomchijogblaaW.PrintMore Go.Proofs.Ytcpomchijogblaa.Str
set_option linter.unusedVariables false
set_option linter.unusedSimpArgs false

/-- A slot of the object x points to y. -/
def Pts (L : List S73) (x y : Int) : Prop := ∃ s : Nat, s < 16 ∧ trapP L x (s : Int) true = 0 ∧ loadP L x (s : Int) true = y
structure RV (L : List S73) (fs : List Int) (s : List Bool × List Int) : Prop where
  ok : SOk L.length s
  met : ∀ x : Int, 1 ≤ x → x ≤ (L.length : Int) → (s.1.getD x.toNat false = true ↔ x ∈ s.2)
  nod : s.2.Nodup
  src : ∀ p, p < s.2.length → s.2.getD p 0 ∈ fs ∨ ∃ q, q < p ∧ Pts L (s.2.getD q 0) (s.2.getD p 0)
theorem getD_set_b (l : List Bool) (i j : Nat) (h : i < l.length) : (l.set i true).getD j false = if i = j then true else l.getD j false := by
  by_cases e : i = j
  · subst e
    rw [if_pos rfl, List.getD_eq_getElem?_getD, List.getElem?_set_self h]
    rfl
  · rw [if_neg e, List.getD_eq_getElem?_getD, List.getElem?_set_ne e, ← List.getD_eq_getElem?_getD]
theorem getD_app (l : List Int) (x : Int) (p : Nat) (h : p < l.length) : (l ++ [x]).getD p 0 = l.getD p 0 := by
  rw [List.getD_eq_getElem?_getD, List.getElem?_append_left h, ← List.getD_eq_getElem?_getD]
theorem getD_last (l : List Int) (x : Int) : (l ++ [x]).getD l.length 0 = x := by simp
theorem visM_true {met : List Bool} {id : Int} (h : visM met id = true) : 1 ≤ id ∧ id < (met.length : Int) ∧ met.getD id.toNat false = false := by
  unfold visM at h
  simp only [Bool.and_eq_true, decide_eq_true_eq, Bool.not_eq_true'] at h
  exact ⟨h.1.1, h.1.2, h.2⟩
theorem visit_mem (s : List Bool × List Int) (id : Int) {x : Int} (h : x ∈ s.2) : x ∈ (visit s id).2 := by
  unfold visit
  split
  · exact List.mem_append_left _ h
  · exact h
theorem visit_getD (s : List Bool × List Int) (id : Int) {q : Nat} (h : q < s.2.length) : (visit s id).2.getD q 0 = s.2.getD q 0 ∧ q < (visit s id).2.length := by
  unfold visit
  split
  · exact ⟨getD_app _ _ _ h, by rw [List.length_append]; omega⟩
  · exact ⟨rfl, h⟩
theorem RV.visit {L : List S73} {fs : List Int} {s : List Bool × List Int} (h : RV L fs s) (id : Int) (hs : id ∈ fs ∨ ∃ q, q < s.2.length ∧ Pts L (s.2.getD q 0) id) : RV L fs (visit s id) ∧ (1 ≤ id → id ≤ (L.length : Int) → id ∈ (PPo.visit s id).2) := by
  by_cases hv : visM s.1 id = true
  · obtain ⟨h1, h2, h3⟩ := visM_true hv
    have hl := h.ok.len
    have e : PPo.visit s id = (s.1.set id.toNat true, s.2 ++ [id]) := if_pos hv
    have hni : id ∉ s.2 := fun hm => by
      have := (h.met id h1 (by omega)).2 hm
      rw [h3] at this
      cases this
    have hok := h.ok.visit id
    rw [e] at hok ⊢
    refine ⟨⟨hok, ?_, ?_, ?_⟩, fun _ _ => by simp⟩
    · intro x hx0 hx1
      show (s.1.set id.toNat true).getD x.toNat false = true ↔ x ∈ s.2 ++ [id]
      rw [getD_set_b _ _ _ (by omega), List.mem_append, List.mem_singleton]
      by_cases ex : x = id
      · subst ex
        simp
      · rw [if_neg (by omega), h.met x hx0 hx1]
        simp [ex]
    · show (s.2 ++ [id]).Nodup
      rw [List.nodup_append]
      refine ⟨h.nod, by simp, ?_⟩
      intro a ha b hb eab
      rw [List.mem_singleton.1 hb] at eab
      exact hni (eab ▸ ha)
    · intro p hp
      show (s.2 ++ [id]).getD p 0 ∈ fs ∨ ∃ q, q < p ∧ Pts L ((s.2 ++ [id]).getD q 0) ((s.2 ++ [id]).getD p 0)
      have hp' : p < (s.2 ++ [id]).length := hp
      rw [List.length_append] at hp'
      by_cases ep : p < s.2.length
      · rw [getD_app _ _ _ ep]
        rcases h.src p ep with h4 | ⟨q, hq, h4⟩
        · exact .inl h4
        · exact .inr ⟨q, hq, by rw [getD_app _ _ _ (by omega)]; exact h4⟩
      · obtain rfl : p = s.2.length := by simp at hp'; omega
        rw [getD_last]
        rcases hs with h4 | ⟨q, hq, h4⟩
        · exact .inl h4
        · exact .inr ⟨q, hq, by rw [getD_app _ _ _ hq]; exact h4⟩
  · have e : PPo.visit s id = s := if_neg hv
    rw [e]
    refine ⟨h, fun h1 h2 => ?_⟩
    refine (h.met id h1 h2).1 ?_
    cases hb : s.1.getD id.toNat false with
    | true => rfl
    | false =>
      exfalso
      refine hv ?_
      have hl := h.ok.len
      unfold visM
      rw [hb]
      simp only [Bool.not_false, Bool.and_true, Bool.and_eq_true, decide_eq_true_eq]
      exact ⟨h1, by omega⟩
theorem RV.slots {L : List S73} {fs : List Int} (q : Nat) (id : Int) (x : S31) : ∀ (l : List Int) (j : Nat) (s : List Bool × List Int), RV L fs s → q < s.2.length → s.2.getD q 0 = id →
    (∀ jj, jj < l.length → ptrB x.f0 x.f1 ((j + jj : Nat) : Int) = true → Pts L id (l.getD jj 0)) →
    RV L fs (slotsS x l j s) ∧ (∀ y, y ∈ s.2 → y ∈ (slotsS x l j s).2) ∧ (∀ p, p < s.2.length → (slotsS x l j s).2.getD p 0 = s.2.getD p 0 ∧ p < (slotsS x l j s).2.length) ∧
      ∀ jj, jj < l.length → ptrB x.f0 x.f1 ((j + jj : Nat) : Int) = true → 1 ≤ l.getD jj 0 → l.getD jj 0 ≤ (L.length : Int) → l.getD jj 0 ∈ (slotsS x l j s).2
  | [], _, s, h, _, _, _ => ⟨h, fun _ h => h, fun _ h => ⟨rfl, h⟩, fun jj hjj => by simp at hjj⟩
  | n :: l, j, s, h, hq, hid, hp => by
    have hp' : ∀ jj, jj < l.length → ptrB x.f0 x.f1 ((j + 1 + jj : Nat) : Int) = true → Pts L id (l.getD jj 0) := fun jj hjj hb => by
      have := hp (jj + 1) (by simp; omega) (by rw [show j + (jj + 1) = j + 1 + jj by omega]; exact hb)
      simpa using this
    show RV L fs (slotsS x l (j + 1) (if ptrB x.f0 x.f1 (j : Int) = true then PPo.visit s n else s)) ∧ _
    by_cases hb : ptrB x.f0 x.f1 (j : Int) = true
    · have hpn : Pts L id n := by
        have := hp 0 (by simp) hb
        simpa using this
      obtain ⟨hv, hin⟩ := h.visit n (.inr ⟨q, hq, by rw [hid]; exact hpn⟩)
      have e : slotsS x (n :: l) j s = slotsS x l (j + 1) (PPo.visit s n) := by show slotsS x l (j + 1) (if _ then _ else _) = _; rw [if_pos hb]
      rw [if_pos hb, e]
      obtain ⟨g1, g2, g3, g4⟩ := RV.slots q id x l (j + 1) (PPo.visit s n) hv (visit_getD s n hq).2 (by rw [(visit_getD s n hq).1]; exact hid) hp'
      refine ⟨g1, fun y hy => g2 y (visit_mem s n hy), fun p hp2 => ?_, fun jj hjj hbj h1 h2 => ?_⟩
      · obtain ⟨k1, k2⟩ := visit_getD s n hp2
        obtain ⟨k3, k4⟩ := g3 p k2
        exact ⟨k3.trans k1, k4⟩
      · cases jj with
        | zero => exact g2 _ (hin (by simpa using h1) (by simpa using h2))
        | succ jj =>
          have := g4 jj (by simpa using hjj) (by rw [show j + 1 + jj = j + (jj + 1) by omega]; exact hbj) (by simpa using h1) (by simpa using h2)
          simpa using this
    · have e : slotsS x (n :: l) j s = slotsS x l (j + 1) s := by show slotsS x l (j + 1) (if _ then _ else _) = _; rw [if_neg hb]
      rw [if_neg hb, e]
      obtain ⟨g1, g2, g3, g4⟩ := RV.slots q id x l (j + 1) s h hq hid hp'
      refine ⟨g1, g2, g3, fun jj hjj hbj h1 h2 => ?_⟩
      cases jj with
      | zero => exact absurd hbj hb
      | succ jj =>
        have := g4 jj (by simpa using hjj) (by rw [show j + 1 + jj = j + (jj + 1) by omega]; exact hbj) (by simpa using h1) (by simpa using h2)
        simpa using this
/-- What the i first point to is there. -/
def Done (L : List S73) (i : Nat) (s : List Bool × List Int) : Prop := ∀ q, q < i → q < s.2.length → ∀ y, Pts L (s.2.getD q 0) y → 1 ≤ y → y ≤ (L.length : Int) → y ∈ s.2
theorem pts_slots {L : List S73} (ho : ∀ x ∈ L, ObOk x) {id : Int} (h1 : 1 ≤ id) (h2 : id ≤ (L.length : Int)) (jj : Nat) (hj : jj < (L.getD (id - 1).toNat z73).f1.length) (hb : ptrB (L.getD (id - 1).toNat z73).f0.f0 (L.getD (id - 1).toNat z73).f0.f1 (jj : Int) = true) :
    Pts L id ((L.getD (id - 1).toNat z73).f1.getD jj 0) := by
  have ob := ob_at ho (show (id - 1).toNat < L.length by omega)
  have hl := ob.len
  have hh := ob.hi
  have ht : trapP L id (jj : Int) true = 0 := by
    unfold trapP
    rw [if_neg (by omega), if_neg (by omega), if_neg]
    rintro (h | h | h)
    · omega
    · omega
    · exact h hb
  refine ⟨jj, by omega, ht, ?_⟩
  unfold loadP
  rw [if_pos ht, Int.toNat_natCast]
theorem RV.go {L : List S73} (ho : ∀ x ∈ L, ObOk x) {fs : List Int} : ∀ (k i : Nat) (s : List Bool × List Int), RV L fs s → Done L i s → L.length + 2 ≤ k + i → RV L fs (goS L k i s) ∧ Done L (goS L k i s).2.length (goS L k i s)
  | 0, i, s, h, hd, hk => ⟨h, fun q hq hq2 => hd q (by have := h.ok.short; have hq3 : q < s.2.length := hq2; omega) hq2⟩
  | k + 1, i, s, h, hd, hk => by
    by_cases hi : i < s.2.length
    · have e : goS L (k + 1) i s = goS L k (i + 1) (slotsS (L.getD (s.2.getD i 0 - 1).toNat z73).f0 (L.getD (s.2.getD i 0 - 1).toNat z73).f1 0 s) := if_pos hi
      rw [e]
      obtain ⟨id, hid⟩ : ∃ id, s.2.getD i 0 = id := ⟨_, rfl⟩
      have hmem : id ∈ s.2 := by rw [← hid, List.getD_eq_getElem?_getD, List.getElem?_eq_getElem hi]; exact List.getElem_mem hi
      obtain ⟨h1, h2⟩ := h.ok.ids id hmem
      rw [hid]
      obtain ⟨g1, g2, g3, g4⟩ := RV.slots i id (L.getD (id - 1).toNat z73).f0 (L.getD (id - 1).toNat z73).f1 0 s h hi hid (fun jj hjj hb => pts_slots ho h1 h2 jj hjj (by simpa using hb))
      refine RV.go ho k (i + 1) _ g1 ?_ (by omega)
      intro q hq hq2 y hy hy1 hy2
      by_cases eq : q = i
      · subst eq
        rw [(g3 q hi).1, hid] at hy
        obtain ⟨sl, hs1, ht, hl⟩ := hy
        obtain ⟨-, -, -, t4, t5⟩ := trapP_zero ht
        unfold loadP at hl
        rw [if_pos ht, Int.toNat_natCast] at hl
        have ob := ob_at ho (show (id - 1).toNat < L.length by omega)
        have := g4 sl (by rw [ob.len]; omega) (by simpa using t5) (by rw [hl]; exact hy1) (by rw [hl]; exact hy2)
        rwa [hl] at this
      · rw [(g3 q (by omega)).1] at hy
        exact g2 y (hd q (by omega) (by omega) y hy hy1 hy2)
    · have e : goS L (k + 1) i s = s := if_neg hi
      rw [e]
      exact ⟨h, fun q hq hq2 => hd q (by omega) hq2⟩
theorem RV.fold {L : List S73} {fs : List Int} : ∀ (l : List Int) (s : List Bool × List Int), (∀ x ∈ l, x ∈ fs) → RV L fs s → RV L fs (l.foldl PPo.visit s)
  | [], _, _, h => h
  | x :: l, s, hl, h => RV.fold l _ (fun y hy => hl y (by simp [hy])) (h.visit x (.inl (hl x (by simp)))).1
theorem RV.new (L : List S73) (fs : List Int) : RV L fs (List.replicate (L.length + 1) false, []) := by
  refine ⟨SOk.new _, fun x h1 h2 => ?_, List.nodup_nil, fun p hp => by simp at hp⟩
  show (List.replicate (L.length + 1) false).getD x.toNat false = true ↔ x ∈ []
  rw [List.getD_eq_getElem?_getD, List.getElem?_replicate]
  split <;> simp
theorem reach_law {L : List S73} (ho : ∀ x ∈ L, ObOk x) (fs : List Int) : (∀ x ∈ reachP L fs, 1 ≤ x ∧ x ≤ (L.length : Int)) ∧ (reachP L fs).Nodup ∧ (∀ p, p < (reachP L fs).length → (reachP L fs).getD p 0 ∈ fs ∨ ∃ q, q < p ∧ Pts L ((reachP L fs).getD q 0) ((reachP L fs).getD p 0)) ∧
    ∀ q, q < (reachP L fs).length → ∀ y, Pts L ((reachP L fs).getD q 0) y → 1 ≤ y → y ≤ (L.length : Int) → y ∈ reachP L fs := by
  obtain ⟨h1, h2⟩ := RV.go ho (L.length + 2) 0 _ (RV.fold fs _ (fun _ h => h) (RV.new L fs)) (fun q hq => by omega) (by omega)
  exact ⟨h1.ok.ids, h1.nod, h1.src, fun q hq => h2 q hq hq⟩

/-- Is y among the k first of fs? -/
def seenF (fs : List Int) (y : Int) (k : Nat) : Bool := (fs.take k).any (· == y)
/-- Do the m first slots of x point to y? -/
def ptsB (L : List S73) (x y : Int) (m : Nat) : Bool := (List.range m).any fun s => decide (trapP L x (s : Int) true = 0) && (loadP L x (s : Int) true == y)
/-- Do the k first of rs point to y? -/
def seenP (L : List S73) (rs : List Int) (y : Int) (k : Nat) : Bool := (rs.take k).any fun x => ptsB L x y 16
theorem rd_nat (l : List Int) (k : Nat) : rd l (k : Int) = l.getD k 0 := by unfold rd; rw [Int.toNat_natCast]
theorem seenF_succ {fs : List Int} (y : Int) {k : Nat} (h : k < fs.length) : seenF fs y (k + 1) = (seenF fs y k || (rd fs k == y)) := by
  unfold seenF
  rw [List.take_succ_eq_append_getElem h, List.any_append, rd_nat, List.getD_eq_getElem?_getD, List.getElem?_eq_getElem h]
  simp
theorem ptsB_succ (L : List S73) (x y : Int) (m : Nat) : ptsB L x y (m + 1) = (ptsB L x y m || (decide (trapP L x (m : Int) true = 0) && (loadP L x (m : Int) true == y))) := by
  unfold ptsB
  rw [List.range_succ, List.any_append]
  simp
theorem seenP_succ (L : List S73) {rs : List Int} (y : Int) {k : Nat} (h : k < rs.length) : seenP L rs y (k + 1) = (seenP L rs y k || ptsB L (rd rs k) y 16) := by
  unfold seenP
  rw [List.take_succ_eq_append_getElem h, List.any_append, rd_nat, List.getD_eq_getElem?_getD, List.getElem?_eq_getElem h]
  simp
theorem seenF_mem {fs : List Int} {y : Int} (h : y ∈ fs) : seenF fs y fs.length = true := by
  unfold seenF
  rw [List.take_length, List.any_eq_true]
  exact ⟨y, h, by simp⟩
theorem ptsB_of {L : List S73} {x y : Int} (h : Pts L x y) : ptsB L x y 16 = true := by
  obtain ⟨s, hs, h1, h2⟩ := h
  unfold ptsB
  rw [List.any_eq_true]
  exact ⟨s, by simpa using hs, by simp [h1, h2]⟩
theorem seenP_of {L : List S73} {rs : List Int} {y : Int} {q i : Nat} (hq : q < i) (hi : i < rs.length) (h : Pts L (rs.getD q 0) y) : seenP L rs y i = true := by
  unfold seenP
  rw [List.any_eq_true]
  refine ⟨rs.getD q 0, ?_, ptsB_of h⟩
  rw [List.getD_eq_getElem?_getD, List.getElem?_eq_getElem (by omega)]
  rw [List.mem_take_iff_getElem]
  exact ⟨q, by omega, rfl⟩
/-- What the law asks of what is reached. -/
structure ReachOk (L : List S73) (fs rs : List Int) : Prop where
  ids : ∀ i : Nat, i < rs.length → 1 ≤ rd rs i
  ne : ∀ i k : Nat, i < rs.length → k < i → (rd rs k == rd rs i) = false
  src : ∀ i : Nat, i < rs.length → (seenF fs (rd rs i) fs.length || seenP L rs (rd rs i) i) = true
  into : ∀ i : Nat, i < rs.length → ∀ s : Nat, s < 16 → trapP L (rd rs i) (s : Int) true = 0 → 1 ≤ loadP L (rd rs i) (s : Int) true → loadP L (rd rs i) (s : Int) true ≤ (L.length : Int) → seenF rs (loadP L (rd rs i) (s : Int) true) rs.length = true
theorem reach_ok {L : List S73} (ho : ∀ x ∈ L, ObOk x) (fs : List Int) : ReachOk L fs (reachP L fs) := by
  obtain ⟨h0, h1, h2, h3⟩ := reach_law ho fs
  have hm : ∀ i : Nat, i < (reachP L fs).length → rd (reachP L fs) i ∈ reachP L fs := fun i hi => by
    rw [rd_nat, List.getD_eq_getElem?_getD, List.getElem?_eq_getElem hi]
    exact List.getElem_mem hi
  refine ⟨fun i hi => (h0 _ (hm i hi)).1, fun i k hi hk => ?_, fun i hi => ?_, fun i hi s hs ht hl0 hl1 => ?_⟩
  · rw [beq_eq_false_iff_ne, rd_nat, rd_nat, List.getD_eq_getElem?_getD, List.getD_eq_getElem?_getD, List.getElem?_eq_getElem hi, List.getElem?_eq_getElem (show k < (reachP L fs).length by omega)]
    exact (List.pairwise_iff_getElem.1 h1) k i (by omega) hi hk
  · rcases h2 i hi with h | ⟨q, hq, h⟩
    · rw [rd_nat, seenF_mem h]
      rfl
    · rw [rd_nat, seenP_of hq hi h, Bool.or_true]
  · exact seenF_mem (h3 i hi _ ⟨s, hs, by rw [← rd_nat]; exact ht, by rw [← rd_nat]⟩ hl0 hl1)
end Go.Proofs.Ytcpomchijogblaa.PPo
