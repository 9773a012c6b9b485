import Derived.Test.YtkgjbdbhpohkiaaMw12
import Derived.Test.YtkgjbdbhpohkiaaMw19
import Derived.Test.YtkgjbdbhpohkiaaMw14
import Derived.Test.YtkgjbdbhpohkiaaMw16
import Derived.Test.YtkgjbdbhpohkiaaMw2
import Derived.Test.YtkgjbdbhpohkiaaMw4
import Derived.Test.YtkgjbdbhpohkiaaMw23
import Derived.Test.YtkgjbdbhpohkiaaMw13
-- from YtkgjbdbhpohkiaaLiCode
section
namespace Go.Proofs.Ytkgjbdbhpohkiaa.CodeLaw
open Go.RowKit Go.Proofs.Ytkgjbdbhpohkiaa.PLi Go.Proofs.YtkgjbdbhpohkiaaW.PrintWords Go.Proofs.YtkgjbdbhpohkiaaW.PrintLast Go.Proofs.YtkgjbdbhpohkiaaW.PrintMore Go.Proofs.Ytkgjbdbhpohkiaa.Str
set_option linter.unusedSimpArgs false
set_option linter.unusedVariables false
def wtI (l : List S37) : Nat := (l.map fun x => 1 + x.f5.length).sum
def wtB (f : S33) : Nat := f.f0.length + wtI f.f2
def wtL (l : List S33) : Nat := l.length + (l.map wtB).sum
section
variable (l : List S33) (hl : l.length ≤ 140737488351232) (hp : ∀ f ∈ l, f.f0.length ≤ 140737488351232) (hb : ∀ f ∈ l, f.f2.length ≤ 140737488351232) (ha : ∀ f ∈ l, ∀ x ∈ f.f2, x.f5.length ≤ 140737488351232)
include hl hp hb ha
omit hp in
theorem weight_l1 (i : Nat) (hi : i < l.length) (next : ∀ acc : Nat, acc ≤ 281474976710655 → ∃ r : Nat, Ev (fun k => turntableref33_Weight.l0 k l 300 (acc : Int) (wrap64 ((i : Int) + 1))) (r : Int) ∧ (r ≤ 300 → acc + ((l.drop (i + 1)).map wtB).sum ≤ 300)) :
    ∀ (d j acc : Nat), l[i].f2.length - j = d → acc ≤ 281474976710655 → ∃ r : Nat, Ev (fun k => turntableref33_Weight.l1 k l 300 (acc : Int) (i : Int) (j : Int)) (r : Int) ∧ (r ≤ 300 → acc + wtI (l[i].f2.drop j) + ((l.drop (i + 1)).map wtB).sum ≤ 300) := by
  intro d
  have hbi := hb _ (List.getElem_mem hi)
  induction d with
  | zero =>
    intro j acc hd ha'
    obtain ⟨r, hr, hr2⟩ := next acc ha'
    refine ⟨r, Ev.step (fun k => by simp only [turntableref33_Weight.l1]; rfl) (ev_pos (by omega) (ev_pos (by omega) (ev_neg (by rw [rd47_at l i hi]; omega) hr))), fun h => ?_⟩
    rw [List.drop_eq_nil_of_le (by omega)]
    have := hr2 h
    simpa [wtI] using this
  | succ d ih =>
    intro j acc hd ha'
    have hj : j < l[i].f2.length := by omega
    by_cases hac : acc ≤ 300
    · have hx := ha _ (List.getElem_mem hi) _ (List.getElem_mem hj)
      obtain ⟨r, hr, hr2⟩ := ih (j + 1) (acc + (1 + l[i].f2[j].f5.length)) (by omega) (by omega)
      refine ⟨r, Ev.step (fun k => by simp only [turntableref33_Weight.l1]; rfl) (ev_pos (by omega) (ev_pos (by omega) (ev_pos (by rw [rd47_at l i hi]; omega) (ev_pos (by omega) (ev_pos (by omega) ?_))))), fun h => ?_⟩
      · rw [rd47_at l i hi, rd51_at _ j hj]
        have e1 : wrap64 ((j : Int) + 1) = ((j + 1 : Nat) : Int) := by rw [w64 (by omega) (by omega)]; omega
        have e2 : wrap64 ((wrap64 ((acc : Int) + 1)) + ((l[i].f2[j].f5.length : Nat) : Int)) = ((acc + (1 + l[i].f2[j].f5.length) : Nat) : Int) := by rw [w64 (x := (acc : Int) + 1) (by omega) (by omega), w64 (by omega) (by omega)]; omega
        rw [e1, e2]
        exact hr
      · have := hr2 h
        rw [List.drop_eq_getElem_cons hj]
        show acc + wtI (l[i].f2[j] :: l[i].f2.drop (j + 1)) + _ ≤ 300
        have e : wtI (l[i].f2[j] :: l[i].f2.drop (j + 1)) = (1 + l[i].f2[j].f5.length) + wtI (l[i].f2.drop (j + 1)) := rfl
        rw [e]
        omega
    · obtain ⟨r, hr, hr2⟩ := next acc ha'
      have e : wrap64 ((i : Int) + 1) = ((i + 1 : Nat) : Int) := by rw [w64 (by omega) (by omega)]; omega
      exact ⟨r, Ev.step (fun k => by simp only [turntableref33_Weight.l1]; rfl) (ev_pos (by omega) (ev_pos (by omega) (ev_pos (by rw [rd47_at l i hi]; omega) (ev_neg (by omega) hr)))), fun h => absurd (hr2 h) (by omega)⟩
theorem weight_l0 : ∀ (d i acc : Nat), l.length - i = d → acc ≤ 281474976710655 → ∃ r : Nat, Ev (fun k => turntableref33_Weight.l0 k l 300 (acc : Int) (i : Int)) (r : Int) ∧ (r ≤ 300 → acc + ((l.drop i).map wtB).sum ≤ 300) := by
  intro d
  induction d with
  | zero =>
    intro i acc hd ha'
    exact ⟨acc, Ev.step (fun k => by simp only [turntableref33_Weight.l0]; rfl) (ev_neg (by omega) (Ev.step (fun k => by simp only [turntableref33_Weight.j1]; rfl) (ev_neg (by simp) (Ev.now _)))), fun h => by rw [List.drop_eq_nil_of_le (by omega)]; simpa using h⟩
  | succ d ih =>
    intro i acc hd ha'
    have hi : i < l.length := by omega
    have hpi := hp _ (List.getElem_mem hi)
    by_cases hac : acc ≤ 300
    · have e : wrap64 ((i : Int) + 1) = ((i + 1 : Nat) : Int) := by rw [w64 (by omega) (by omega)]; omega
      obtain ⟨r, hr, hr2⟩ := weight_l1 l hl hb ha i hi (fun acc h => by rw [e]; exact ih (i + 1) acc (by omega) h) _ 0 (acc + l[i].f0.length) rfl (by omega)
      refine ⟨r, Ev.step (fun k => by simp only [turntableref33_Weight.l0]; rfl) (ev_pos (by omega) (Ev.step (fun k => by simp only [turntableref33_Weight.j1]; rfl) (ev_pos (by simp; omega) (ev_pos (by omega) (ev_pos (by omega) ?_))))), fun h => ?_⟩
      · rw [rd47_at l i hi]
        have e2 : wrap64 ((acc : Int) + ((l[i].f0.length : Nat) : Int)) = ((acc + l[i].f0.length : Nat) : Int) := by rw [w64 (by omega) (by omega)]; omega
        rw [e2]
        exact hr
      · have := hr2 h
        rw [List.drop_eq_getElem_cons hi, List.map_cons, List.sum_cons]
        rw [List.drop_zero] at this
        show acc + ((l[i].f0.length + wtI l[i].f2) + _) ≤ 300
        omega
    · exact ⟨acc, Ev.step (fun k => by simp only [turntableref33_Weight.l0]; rfl) (ev_pos (by omega) (Ev.step (fun k => by simp only [turntableref33_Weight.j1]; rfl) (ev_neg (by simp; omega) (Ev.now _)))), fun h => absurd h hac⟩
theorem light_any : ∃ b, Ev (fun k => turntablelaw37_light.f k l) b ∧ (b = true → wtL l ≤ 300) := by
  obtain ⟨r, hr, hr2⟩ := weight_l0 l hl hp hb ha _ 0 l.length rfl (by omega)
  refine ⟨decide ((r : Int) ≤ 300), Ev.bind (f := fun _ t => some (decide (t ≤ 300))) (show Ev (fun k => turntableref33_Weight.f k l 300) (r : Int) from hr) (Ev.now _), fun h => ?_⟩
  have := hr2 (by have := of_decide_eq_true h; omega)
  rw [List.drop_zero] at this
  exact this
end
theorem ev_eq {α : Type} {g : Nat → Option α} {r r' : α} (h : r' = r) (k : Ev g r') : Ev g r := h ▸ k
theorem bool_ext {x y : Bool} (h : x = true ↔ y = true) : x = y := by cases x <;> cases y <;> simp_all
theorem refB_1 (d a b nn : Int) (l : List Int) (t0 t1 size n funcs : Int) : refB 1 d a b nn l t0 t1 size n funcs = instB 1 d a b nn l t0 t1 size n funcs := by
  unfold refB instB
  rw [show piecesS 1 = (⟨#[100, 119]⟩ : ByteArray) by decide, show piecesL 1 = [0, 4] by decide]
  simp only [hasC, toList_eq]
  cases h : l.any (offB size)
  all_goals
    apply bool_ext
    simp [okP, toldP, told0, withinB, emptyB, slotB, placeB, allB, h]
    try simp only [← List.length_eq_zero_iff]
    try omega
theorem refB_2 (d a b nn : Int) (l : List Int) (t0 t1 size n funcs : Int) : refB 2 d a b nn l t0 t1 size n funcs = instB 2 d a b nn l t0 t1 size n funcs := by
  unfold refB instB
  rw [show piecesS 2 = (⟨#[100, 97, 98]⟩ : ByteArray) by decide, show piecesL 2 = [0, 1, 2] by decide]
  simp only [hasC, toList_eq]
  cases h : l.any (offB size)
  all_goals
    apply bool_ext
    simp [okP, toldP, told0, withinB, emptyB, slotB, placeB, allB, h]
    try simp only [← List.length_eq_zero_iff]
    try omega
theorem refB_3 (d a b nn : Int) (l : List Int) (t0 t1 size n funcs : Int) : refB 3 d a b nn l t0 t1 size n funcs = instB 3 d a b nn l t0 t1 size n funcs := by
  unfold refB instB
  rw [show piecesS 3 = (⟨#[100, 97, 98]⟩ : ByteArray) by decide, show piecesL 3 = [0, 1, 2] by decide]
  simp only [hasC, toList_eq]
  cases h : l.any (offB size)
  all_goals
    apply bool_ext
    simp [okP, toldP, told0, withinB, emptyB, slotB, placeB, allB, h]
    try simp only [← List.length_eq_zero_iff]
    try omega
theorem refB_4 (d a b nn : Int) (l : List Int) (t0 t1 size n funcs : Int) : refB 4 d a b nn l t0 t1 size n funcs = instB 4 d a b nn l t0 t1 size n funcs := by
  unfold refB instB
  rw [show piecesS 4 = (⟨#[100, 97, 98]⟩ : ByteArray) by decide, show piecesL 4 = [0, 1, 2] by decide]
  simp only [hasC, toList_eq]
  cases h : l.any (offB size)
  all_goals
    apply bool_ext
    simp [okP, toldP, told0, withinB, emptyB, slotB, placeB, allB, h]
    try simp only [← List.length_eq_zero_iff]
    try omega
theorem refB_5 (d a b nn : Int) (l : List Int) (t0 t1 size n funcs : Int) : refB 5 d a b nn l t0 t1 size n funcs = instB 5 d a b nn l t0 t1 size n funcs := by
  unfold refB instB
  rw [show piecesS 5 = (⟨#[100, 97, 98]⟩ : ByteArray) by decide, show piecesL 5 = [0, 1, 2] by decide]
  simp only [hasC, toList_eq]
  cases h : l.any (offB size)
  all_goals
    apply bool_ext
    simp [okP, toldP, told0, withinB, emptyB, slotB, placeB, allB, h]
    try simp only [← List.length_eq_zero_iff]
    try omega
theorem refB_6 (d a b nn : Int) (l : List Int) (t0 t1 size n funcs : Int) : refB 6 d a b nn l t0 t1 size n funcs = instB 6 d a b nn l t0 t1 size n funcs := by
  unfold refB instB
  rw [show piecesS 6 = (⟨#[100, 97, 98]⟩ : ByteArray) by decide, show piecesL 6 = [0, 1, 2] by decide]
  simp only [hasC, toList_eq]
  cases h : l.any (offB size)
  all_goals
    apply bool_ext
    simp [okP, toldP, told0, withinB, emptyB, slotB, placeB, allB, h]
    try simp only [← List.length_eq_zero_iff]
    try omega
theorem refB_7 (d a b nn : Int) (l : List Int) (t0 t1 size n funcs : Int) : refB 7 d a b nn l t0 t1 size n funcs = instB 7 d a b nn l t0 t1 size n funcs := by
  unfold refB instB
  rw [show piecesS 7 = (⟨#[100, 97, 98]⟩ : ByteArray) by decide, show piecesL 7 = [0, 1, 2] by decide]
  simp only [hasC, toList_eq]
  cases h : l.any (offB size)
  all_goals
    apply bool_ext
    simp [okP, toldP, told0, withinB, emptyB, slotB, placeB, allB, h]
    try simp only [← List.length_eq_zero_iff]
    try omega
theorem refB_9 (d a b nn : Int) (l : List Int) (t0 t1 size n funcs : Int) : refB 9 d a b nn l t0 t1 size n funcs = instB 9 d a b nn l t0 t1 size n funcs := by
  unfold refB instB
  rw [show piecesS 9 = (⟨#[100, 97, 98]⟩ : ByteArray) by decide, show piecesL 9 = [0, 1, 2] by decide]
  simp only [hasC, toList_eq]
  cases h : l.any (offB size)
  all_goals
    apply bool_ext
    simp [okP, toldP, told0, withinB, emptyB, slotB, placeB, allB, h]
    try simp only [← List.length_eq_zero_iff]
    try omega
theorem refB_8 (d a b nn : Int) (l : List Int) (t0 t1 size n funcs : Int) : refB 8 d a b nn l t0 t1 size n funcs = instB 8 d a b nn l t0 t1 size n funcs := by
  unfold refB instB
  rw [show piecesS 8 = (⟨#[100]⟩ : ByteArray) by decide, show piecesL 8 = [0] by decide]
  simp only [hasC, toList_eq]
  cases h : l.any (offB size)
  all_goals
    apply bool_ext
    simp [okP, toldP, told0, withinB, emptyB, slotB, placeB, allB, h]
    try simp only [← List.length_eq_zero_iff]
    try omega
theorem refB_10 (d a b nn : Int) (l : List Int) (t0 t1 size n funcs : Int) : refB 10 d a b nn l t0 t1 size n funcs = instB 10 d a b nn l t0 t1 size n funcs := by
  unfold refB instB
  rw [show piecesS 10 = (⟨#[100, 115]⟩ : ByteArray) by decide, show piecesL 10 = [0, 3] by decide]
  simp only [hasC, toList_eq]
  cases h : l.any (offB size)
  all_goals
    apply bool_ext
    simp [okP, toldP, told0, withinB, emptyB, slotB, placeB, allB, h]
    try simp only [← List.length_eq_zero_iff]
    try omega
theorem refB_11 (d a b nn : Int) (l : List Int) (t0 t1 size n funcs : Int) : refB 11 d a b nn l t0 t1 size n funcs = instB 11 d a b nn l t0 t1 size n funcs := by
  unfold refB instB
  rw [show piecesS 11 = (⟨#[100, 97, 115]⟩ : ByteArray) by decide, show piecesL 11 = [0, 1, 3] by decide]
  simp only [hasC, toList_eq]
  cases h : l.any (offB size)
  all_goals
    apply bool_ext
    simp [okP, toldP, told0, withinB, emptyB, slotB, placeB, allB, h]
    try simp only [← List.length_eq_zero_iff]
    try omega
theorem refB_12 (d a b nn : Int) (l : List Int) (t0 t1 size n funcs : Int) : refB 12 d a b nn l t0 t1 size n funcs = instB 12 d a b nn l t0 t1 size n funcs := by
  unfold refB instB
  rw [show piecesS 12 = (⟨#[100, 97, 115]⟩ : ByteArray) by decide, show piecesL 12 = [0, 1, 3] by decide]
  simp only [hasC, toList_eq]
  cases h : l.any (offB size)
  all_goals
    apply bool_ext
    simp [okP, toldP, told0, withinB, emptyB, slotB, placeB, allB, h]
    try simp only [← List.length_eq_zero_iff]
    try omega
theorem refB_15 (d a b nn : Int) (l : List Int) (t0 t1 size n funcs : Int) : refB 15 d a b nn l t0 t1 size n funcs = instB 15 d a b nn l t0 t1 size n funcs := by
  unfold refB instB
  rw [show piecesS 15 = (⟨#[100, 97, 115]⟩ : ByteArray) by decide, show piecesL 15 = [0, 1, 3] by decide]
  simp only [hasC, toList_eq]
  cases h : l.any (offB size)
  all_goals
    apply bool_ext
    simp [okP, toldP, told0, withinB, emptyB, slotB, placeB, allB, h]
    try simp only [← List.length_eq_zero_iff]
    try omega
theorem refB_13 (d a b nn : Int) (l : List Int) (t0 t1 size n funcs : Int) : refB 13 d a b nn l t0 t1 size n funcs = instB 13 d a b nn l t0 t1 size n funcs := by
  unfold refB instB
  rw [show piecesS 13 = (⟨#[97, 98, 115]⟩ : ByteArray) by decide, show piecesL 13 = [1, 2, 3] by decide]
  simp only [hasC, toList_eq]
  cases h : l.any (offB size)
  all_goals
    apply bool_ext
    simp [okP, toldP, told0, withinB, emptyB, slotB, placeB, allB, h]
    try simp only [← List.length_eq_zero_iff]
    try omega
theorem refB_14 (d a b nn : Int) (l : List Int) (t0 t1 size n funcs : Int) : refB 14 d a b nn l t0 t1 size n funcs = instB 14 d a b nn l t0 t1 size n funcs := by
  unfold refB instB
  rw [show piecesS 14 = (⟨#[97, 98, 115]⟩ : ByteArray) by decide, show piecesL 14 = [1, 2, 3] by decide]
  simp only [hasC, toList_eq]
  cases h : l.any (offB size)
  all_goals
    apply bool_ext
    simp [okP, toldP, told0, withinB, emptyB, slotB, placeB, allB, h]
    try simp only [← List.length_eq_zero_iff]
    try omega
theorem refB_16 (d a b nn : Int) (l : List Int) (t0 t1 size n funcs : Int) : refB 16 d a b nn l t0 t1 size n funcs = instB 16 d a b nn l t0 t1 size n funcs := by
  unfold refB instB
  rw [show piecesS 16 = (⟨#[100, 97]⟩ : ByteArray) by decide, show piecesL 16 = [0, 1] by decide]
  simp only [hasC, toList_eq]
  cases h : l.any (offB size)
  all_goals
    apply bool_ext
    simp [okP, toldP, told0, withinB, emptyB, slotB, placeB, allB, h]
    try simp only [← List.length_eq_zero_iff]
    try omega
theorem refB_17 (d a b nn : Int) (l : List Int) (t0 t1 size n funcs : Int) : refB 17 d a b nn l t0 t1 size n funcs = instB 17 d a b nn l t0 t1 size n funcs := by
  unfold refB instB
  rw [show piecesS 17 = (⟨#[100, 97]⟩ : ByteArray) by decide, show piecesL 17 = [0, 1] by decide]
  simp only [hasC, toList_eq]
  cases h : l.any (offB size)
  all_goals
    apply bool_ext
    simp [okP, toldP, told0, withinB, emptyB, slotB, placeB, allB, h]
    try simp only [← List.length_eq_zero_iff]
    try omega
theorem refB_30 (d a b nn : Int) (l : List Int) (t0 t1 size n funcs : Int) : refB 30 d a b nn l t0 t1 size n funcs = instB 30 d a b nn l t0 t1 size n funcs := by
  unfold refB instB
  rw [show piecesS 30 = (⟨#[100, 97]⟩ : ByteArray) by decide, show piecesL 30 = [0, 1] by decide]
  simp only [hasC, toList_eq]
  cases h : l.any (offB size)
  all_goals
    apply bool_ext
    simp [okP, toldP, told0, withinB, emptyB, slotB, placeB, allB, h]
    try simp only [← List.length_eq_zero_iff]
    try omega
theorem refB_18 (d a b nn : Int) (l : List Int) (t0 t1 size n funcs : Int) : refB 18 d a b nn l t0 t1 size n funcs = instB 18 d a b nn l t0 t1 size n funcs := by
  unfold refB instB
  rw [show piecesS 18 = (⟨#[97, 98]⟩ : ByteArray) by decide, show piecesL 18 = [1, 2] by decide]
  simp only [hasC, toList_eq]
  cases h : l.any (offB size)
  all_goals
    apply bool_ext
    simp [okP, toldP, told0, withinB, emptyB, slotB, placeB, allB, h]
    try simp only [← List.length_eq_zero_iff]
    try omega
theorem refB_19 (d a b nn : Int) (l : List Int) (t0 t1 size n funcs : Int) : refB 19 d a b nn l t0 t1 size n funcs = instB 19 d a b nn l t0 t1 size n funcs := by
  unfold refB instB
  rw [show piecesS 19 = (⟨#[97, 98]⟩ : ByteArray) by decide, show piecesL 19 = [1, 2] by decide]
  simp only [hasC, toList_eq]
  cases h : l.any (offB size)
  all_goals
    apply bool_ext
    simp [okP, toldP, told0, withinB, emptyB, slotB, placeB, allB, h]
    try simp only [← List.length_eq_zero_iff]
    try omega
theorem refB_21 (d a b nn : Int) (l : List Int) (t0 t1 size n funcs : Int) : refB 21 d a b nn l t0 t1 size n funcs = instB 21 d a b nn l t0 t1 size n funcs := by
  unfold refB instB
  rw [show piecesS 21 = (⟨#[100, 97, 115, 108]⟩ : ByteArray) by decide, show piecesL 21 = [0, 1, 3, 5] by decide]
  simp only [hasC, toList_eq]
  cases h : l.any (offB size)
  all_goals
    apply bool_ext
    simp [okP, toldP, told0, withinB, emptyB, slotB, placeB, allB, h]
    try simp only [← List.length_eq_zero_iff]
    try omega
theorem refB_22 (d a b nn : Int) (l : List Int) (t0 t1 size n funcs : Int) : refB 22 d a b nn l t0 t1 size n funcs = instB 22 d a b nn l t0 t1 size n funcs := by
  unfold refB instB
  rw [show piecesS 22 = (⟨#[97]⟩ : ByteArray) by decide, show piecesL 22 = [1] by decide]
  simp only [hasC, toList_eq]
  cases h : l.any (offB size)
  all_goals
    apply bool_ext
    simp [okP, toldP, told0, withinB, emptyB, slotB, placeB, allB, h]
    try simp only [← List.length_eq_zero_iff]
    try omega
theorem refB_25 (d a b nn : Int) (l : List Int) (t0 t1 size n funcs : Int) : refB 25 d a b nn l t0 t1 size n funcs = instB 25 d a b nn l t0 t1 size n funcs := by
  unfold refB instB
  rw [show piecesS 25 = (⟨#[97]⟩ : ByteArray) by decide, show piecesL 25 = [1] by decide]
  simp only [hasC, toList_eq]
  cases h : l.any (offB size)
  all_goals
    apply bool_ext
    simp [okP, toldP, told0, withinB, emptyB, slotB, placeB, allB, h]
    try simp only [← List.length_eq_zero_iff]
    try omega
theorem refB_28 (d a b nn : Int) (l : List Int) (t0 t1 size n funcs : Int) : refB 28 d a b nn l t0 t1 size n funcs = instB 28 d a b nn l t0 t1 size n funcs := by
  unfold refB instB
  rw [show piecesS 28 = (⟨#[97]⟩ : ByteArray) by decide, show piecesL 28 = [1] by decide]
  simp only [hasC, toList_eq]
  cases h : l.any (offB size)
  all_goals
    apply bool_ext
    simp [okP, toldP, told0, withinB, emptyB, slotB, placeB, allB, h]
    try simp only [← List.length_eq_zero_iff]
    try omega
theorem refB_23 (d a b nn : Int) (l : List Int) (t0 t1 size n funcs : Int) : refB 23 d a b nn l t0 t1 size n funcs = instB 23 d a b nn l t0 t1 size n funcs := by
  unfold refB instB
  rw [show piecesS 23 = (⟨#[115]⟩ : ByteArray) by decide, show piecesL 23 = [3] by decide]
  simp only [hasC, toList_eq]
  cases h : l.any (offB size)
  all_goals
    apply bool_ext
    simp [okP, toldP, told0, withinB, emptyB, slotB, placeB, allB, h]
    try simp only [← List.length_eq_zero_iff]
    try omega
theorem refB_29 (d a b nn : Int) (l : List Int) (t0 t1 size n funcs : Int) : refB 29 d a b nn l t0 t1 size n funcs = instB 29 d a b nn l t0 t1 size n funcs := by
  unfold refB instB
  rw [show piecesS 29 = (⟨#[115]⟩ : ByteArray) by decide, show piecesL 29 = [3] by decide]
  simp only [hasC, toList_eq]
  cases h : l.any (offB size)
  all_goals
    apply bool_ext
    simp [okP, toldP, told0, withinB, emptyB, slotB, placeB, allB, h]
    try simp only [← List.length_eq_zero_iff]
    try omega
theorem refB_26 (d a b nn : Int) (l : List Int) (t0 t1 size n funcs : Int) : refB 26 d a b nn l t0 t1 size n funcs = instB 26 d a b nn l t0 t1 size n funcs := by
  unfold refB instB
  rw [show piecesS 26 = (⟨#[111]⟩ : ByteArray) by decide, show piecesL 26 = [6] by decide]
  simp only [hasC, toList_eq]
  cases h : l.any (offB size)
  all_goals
    apply bool_ext
    simp [okP, toldP, told0, withinB, emptyB, slotB, placeB, allB, h]
    try simp only [← List.length_eq_zero_iff]
    try omega
theorem refB_27 (d a b nn : Int) (l : List Int) (t0 t1 size n funcs : Int) : refB 27 d a b nn l t0 t1 size n funcs = instB 27 d a b nn l t0 t1 size n funcs := by
  unfold refB instB
  rw [show piecesS 27 = (⟨#[97, 116]⟩ : ByteArray) by decide, show piecesL 27 = [1, 7] by decide]
  simp only [hasC, toList_eq]
  cases h : l.any (offB size)
  all_goals
    apply bool_ext
    simp [okP, toldP, told0, withinB, emptyB, slotB, placeB, allB, h]
    try simp only [← List.length_eq_zero_iff]
    try omega
theorem refB_none (op d a b nn : Int) (l : List Int) (t0 t1 size n funcs : Int) (h : ¬ (op = 1 ∨ op = 2 ∨ op = 3 ∨ op = 4 ∨ op = 5 ∨ op = 6 ∨ op = 7 ∨ op = 8 ∨ op = 9 ∨ op = 10 ∨ op = 11 ∨ op = 12 ∨ op = 13 ∨ op = 14 ∨ op = 15 ∨ op = 16 ∨ op = 17 ∨ op = 18 ∨ op = 19 ∨ op = 21 ∨ op = 22 ∨ op = 23 ∨ op = 25 ∨ op = 26 ∨ op = 27 ∨ op = 28 ∨ op = 29 ∨ op = 30)) : refB op d a b nn l t0 t1 size n funcs = instB op d a b nn l t0 t1 size n funcs := by
  simp only [not_or] at h
  unfold refB instB
  rw [show piecesS op = (⟨#[]⟩ : ByteArray) by unfold piecesS; simp [h], show piecesL op = [] by unfold piecesL; simp [h]]
  simp only [toList_eq]
  simp
theorem refB_eq (op d a b nn : Int) (l : List Int) (t0 t1 size n funcs : Int) : refB op d a b nn l t0 t1 size n funcs = instB op d a b nn l t0 t1 size n funcs := by
  by_cases h : op = 1 ∨ op = 2 ∨ op = 3 ∨ op = 4 ∨ op = 5 ∨ op = 6 ∨ op = 7 ∨ op = 8 ∨ op = 9 ∨ op = 10 ∨ op = 11 ∨ op = 12 ∨ op = 13 ∨ op = 14 ∨ op = 15 ∨ op = 16 ∨ op = 17 ∨ op = 18 ∨ op = 19 ∨ op = 21 ∨ op = 22 ∨ op = 23 ∨ op = 25 ∨ op = 26 ∨ op = 27 ∨ op = 28 ∨ op = 29 ∨ op = 30
  · rcases h with rfl | rfl | rfl | rfl | rfl | rfl | rfl | rfl | rfl | rfl | rfl | rfl | rfl | rfl | rfl | rfl | rfl | rfl | rfl | rfl | rfl | rfl | rfl | rfl | rfl | rfl | rfl | rfl
    · exact refB_1 d a b nn l t0 t1 size n funcs
    · exact refB_2 d a b nn l t0 t1 size n funcs
    · exact refB_3 d a b nn l t0 t1 size n funcs
    · exact refB_4 d a b nn l t0 t1 size n funcs
    · exact refB_5 d a b nn l t0 t1 size n funcs
    · exact refB_6 d a b nn l t0 t1 size n funcs
    · exact refB_7 d a b nn l t0 t1 size n funcs
    · exact refB_8 d a b nn l t0 t1 size n funcs
    · exact refB_9 d a b nn l t0 t1 size n funcs
    · exact refB_10 d a b nn l t0 t1 size n funcs
    · exact refB_11 d a b nn l t0 t1 size n funcs
    · exact refB_12 d a b nn l t0 t1 size n funcs
    · exact refB_13 d a b nn l t0 t1 size n funcs
    · exact refB_14 d a b nn l t0 t1 size n funcs
    · exact refB_15 d a b nn l t0 t1 size n funcs
    · exact refB_16 d a b nn l t0 t1 size n funcs
    · exact refB_17 d a b nn l t0 t1 size n funcs
    · exact refB_18 d a b nn l t0 t1 size n funcs
    · exact refB_19 d a b nn l t0 t1 size n funcs
    · exact refB_21 d a b nn l t0 t1 size n funcs
    · exact refB_22 d a b nn l t0 t1 size n funcs
    · exact refB_23 d a b nn l t0 t1 size n funcs
    · exact refB_25 d a b nn l t0 t1 size n funcs
    · exact refB_26 d a b nn l t0 t1 size n funcs
    · exact refB_27 d a b nn l t0 t1 size n funcs
    · exact refB_28 d a b nn l t0 t1 size n funcs
    · exact refB_29 d a b nn l t0 t1 size n funcs
    · exact refB_30 d a b nn l t0 t1 size n funcs
  · exact refB_none op d a b nn l t0 t1 size n funcs h
def instOf (size n funcs : Int) (x : S37) : Bool := instB x.f0 x.f1 x.f2 x.f3 x.f4 x.f5 x.f6.f0 x.f6.f1 size n funcs
def lastOp (l : List S37) : Int := (rd_T37 l (wrap64 ((l.length : Int) - 1))).f0
def bodyErr (f : S33) (funcs : Int) : Int :=
  if f.f1 < 1 ∨ f.f1 > 4096 ∨ (f.f0.length : Int) > 8 ∨ (f.f2.length : Int) > 65536 then 6
  else if f.f2.length = 0 ∨ lastOp f.f2 < 26 ∨ lastOp f.f2 > 29 then 15
  else if f.f0.any (offB f.f1) = true then 8
  else if f.f2.all (instOf f.f1 (f.f2.length : Int) funcs) = true then 0 else 2
structure Fit (f : S33) : Prop where
  p : f.f0.length ≤ 9223372036854775806
  c : f.f2.length ≤ 9223372036854775806
  a : ∀ x ∈ f.f2, x.f5.length ≤ 9223372036854775806
theorem one_l0 (f : S33) (hf : Fit f) (funcs : Int) : ∀ (d i : Nat), f.f2.length - i = d → Ev (fun k => turntableref33_one.l0 k funcs (f.f2.length : Int) (i : Int) f.f0 f.f1 f.f2) (if (f.f2.drop i).all (instOf f.f1 (f.f2.length : Int) funcs) = true then 0 else 2) := by
  have hc := hf.c
  intro d
  induction d with
  | zero =>
    intro i hd
    refine Ev.step (fun k => by simp only [turntableref33_one.l0]; rfl) (ev_neg (by omega) ?_)
    rw [List.drop_eq_nil_of_le (by omega)]
    exact Ev.now _
  | succ d ih =>
    intro i hd
    have hi : i < f.f2.length := by omega
    refine Ev.step (fun k => by simp only [turntableref33_one.l0]; rfl) (ev_pos (by omega) (ev_pos (by omega) (ev_pos (by omega) ?_)))
    rw [rd51_at _ i hi, List.drop_eq_getElem_cons hi, List.all_cons]
    refine ev_some (show turntableref33_inst.f _ _ _ _ _ _ _ _ _ _ _ = some _ from if_pos (hf.a _ (List.getElem_mem hi))) ?_
    rw [refB_eq]
    show Ev _ (if (instOf f.f1 (f.f2.length : Int) funcs f.f2[i] && _) = true then 0 else 2)
    unfold instOf
    cases instB f.f2[i].f0 f.f2[i].f1 f.f2[i].f2 f.f2[i].f3 f.f2[i].f4 f.f2[i].f5 f.f2[i].f6.f0 f.f2[i].f6.f1 f.f1 (f.f2.length : Int) funcs
    · exact ev_neg (by simp) (ev_eq (by simp) (Ev.now _))
    · have hw : wrap64 ((i : Int) + 1) = ((i + 1 : Nat) : Int) := by rw [w64 (by omega) (by omega)]; omega
      rw [hw]
      exact ev_pos rfl (ev_eq (by simp [instOf]) (ih (i + 1) (by omega)))
theorem one_any (f : S33) (hf : Fit f) (funcs : Int) : Ev (fun k => turntableref33_one.f k f.f0 f.f1 f.f2 funcs) (bodyErr f funcs) := by
  have hc := hf.c
  have hp := hf.p
  have hj1 : ∀ x : Bool, ¬ (f.f1 < 1 ∨ f.f1 > 4096 ∨ (f.f0.length : Int) > 8 ∨ (f.f2.length : Int) > 65536) → (x = true ↔ (f.f2.length = 0 ∨ lastOp f.f2 < 26 ∨ lastOp f.f2 > 29)) → Ev (fun k => turntableref33_one.j1 k funcs (f.f2.length : Int) x f.f0 f.f1 f.f2) (bodyErr f funcs) := by
    intro x h6 hx
    refine Ev.step (fun k => by simp only [turntableref33_one.j1]; rfl) ?_
    unfold bodyErr
    rw [if_neg h6]
    cases x
    · rw [if_neg (fun h => by have := hx.2 h; cases this)]
      refine ev_neg (by simp) (ev_bind' (all_any f.f0 f.f1 hp) ?_)
      have hall : allB f.f0 f.f1 = !(f.f0.any (offB f.f1)) := by unfold allB; rw [decide_eq_true (by omega)]; simp
      rw [hall]
      cases f.f0.any (offB f.f1)
      · have := one_l0 f hf funcs _ 0 rfl
        exact ev_pos rfl (ev_eq (by simp) this)
      · exact ev_neg (by simp) (ev_eq (by simp) (Ev.now _))
    · rw [if_pos (hx.1 rfl)]
      exact ev_pos rfl (Ev.now _)
  have hj0 : ∀ x : Bool, (x = true ↔ (f.f1 < 1 ∨ f.f1 > 4096 ∨ (f.f0.length : Int) > 8 ∨ (f.f2.length : Int) > 65536)) → Ev (fun k => turntableref33_one.j0 k funcs (f.f2.length : Int) x f.f0 f.f1 f.f2) (bodyErr f funcs) := by
    intro x hx
    refine Ev.step (fun k => by simp only [turntableref33_one.j0]; rfl) ?_
    cases x
    · have h6 : ¬ (f.f1 < 1 ∨ f.f1 > 4096 ∨ (f.f0.length : Int) > 8 ∨ (f.f2.length : Int) > 65536) := fun h => by have := hx.2 h; cases this
      refine ev_neg (by simp) ?_
      by_cases h0 : (f.f2.length : Int) = 0
      · exact ev_pos h0 (hj1 true h6 ⟨fun _ => .inl (by omega), fun _ => rfl⟩)
      · have hw : wrap64 ((f.f2.length : Int) - 1) = (f.f2.length : Int) - 1 := w64 (by omega) (by omega)
        refine ev_neg h0 (ev_pos (by omega) (ev_pos (by omega) ?_))
        by_cases h1 : lastOp f.f2 < 26
        · exact ev_pos h1 (hj1 true h6 ⟨fun _ => .inr (.inl h1), fun _ => rfl⟩)
        · refine ev_neg h1 (hj1 _ h6 ⟨fun h => .inr (.inr (of_decide_eq_true h)), fun h => decide_eq_true ?_⟩)
          rcases h with h | h | h
          · omega
          · exact absurd h h1
          · exact h
    · unfold bodyErr
      rw [if_pos (hx.1 rfl)]
      exact ev_pos rfl (Ev.now _)
  unfold turntableref33_one.f
  by_cases h1 : f.f1 < 1
  · exact ev_pos h1 (hj0 true ⟨fun _ => .inl h1, fun _ => rfl⟩)
  · by_cases h2 : f.f1 > 4096
    · exact ev_neg h1 (ev_pos h2 (hj0 true ⟨fun _ => .inr (.inl h2), fun _ => rfl⟩))
    · by_cases h3 : (f.f0.length : Int) > 8
      · exact ev_neg h1 (ev_neg h2 (ev_pos h3 (hj0 true ⟨fun _ => .inr (.inr (.inl h3)), fun _ => rfl⟩)))
      · refine ev_neg h1 (ev_neg h2 (ev_neg h3 (hj0 _ ⟨fun h => .inr (.inr (.inr (of_decide_eq_true h))), fun h => decide_eq_true ?_⟩)))
        rcases h with h | h | h | h
        · exact absurd h h1
        · exact absurd h h2
        · exact absurd h h3
        · exact h
def chkL (funcs : Int) : List S33 → Nat → Int × Int
  | [], _ => (0, 0)
  | f :: r, i => if bodyErr f funcs = 0 then chkL funcs r (i + 1) else (bodyErr f funcs, i)
def chk (l : List S33) : Int × Int := if (l.length : Int) > 32 then (6, (l.length : Int)) else chkL (l.length : Int) l 0
theorem ref_chk_l0 (l : List S33) (hl : l.length ≤ 32) (hf : ∀ f ∈ l, Fit f) : ∀ (d i : Nat), l.length - i = d → Ev (fun k => turntableref33_Check.l0 k l (i : Int)) (chkL (l.length : Int) (l.drop i) i) := by
  intro d
  induction d with
  | zero =>
    intro i hd
    refine Ev.step (fun k => by simp only [turntableref33_Check.l0]; rfl) (ev_neg (by omega) ?_)
    rw [List.drop_eq_nil_of_le (by omega)]
    exact Ev.now _
  | succ d ih =>
    intro i hd
    have hi : i < l.length := by omega
    refine Ev.step (fun k => by simp only [turntableref33_Check.l0]; rfl) (ev_pos (by omega) (ev_pos (by omega) ?_))
    rw [rd47_at _ i hi, List.drop_eq_getElem_cons hi]
    refine ev_bind' (one_any l[i] (hf _ (List.getElem_mem hi)) (l.length : Int)) ?_
    have hw : wrap64 ((i : Int) + 1) = ((i + 1 : Nat) : Int) := by rw [w64 (by omega) (by omega)]; omega
    rw [hw]
    by_cases h : bodyErr l[i] (l.length : Int) = 0
    · exact ev_pos h (ev_eq (by simp [chkL, h]) (ih (i + 1) (by omega)))
    · exact ev_neg h (ev_eq (by simp [chkL, h]) (Ev.now _))
theorem ref_chk (l : List S33) (hf : ∀ f ∈ l, Fit f) : Ev (fun k => turntableref33_Check.f k l) (chk l) := by
  unfold turntableref33_Check.f chk
  by_cases h : (l.length : Int) > 32
  · rw [if_pos h]; exact ev_pos h (Ev.now _)
  · rw [if_neg h]; exact ev_neg h (ref_chk_l0 l (by omega) hf _ 0 rfl)
def setP (x y : S37) (p : Int) : S37 :=
  if p = 0 then { y with f1 := x.f1 } else if p = 1 then { y with f2 := x.f2 } else if p = 2 then { y with f3 := x.f3 }
  else if p = 3 then { y with f4 := x.f4 } else if p = 4 then { y with f4 := x.f4 } else if p = 5 then { y with f5 := x.f5 }
  else if p = 6 then { y with f6 := ⟨x.f6.f0, y.f6.f1⟩ } else if p = 7 then { y with f6 := x.f6 } else y
def blankP (op : Int) : S37 := ⟨op, -1, -1, -1, 0, [], ⟨0, 0⟩⟩
theorem told_set (x : S37) : ∀ (ps : List Int) (y : PLi.Told) (z : S37), z.f1 = y.d → z.f2 = y.a → z.f3 = y.b → z.f4 = y.n → (z.f5 = if y.l = true then x.f5 else []) → z.f6.f0 = y.t0 → z.f6.f1 = y.t1 →
    (ps.foldl (setP x) z).f0 = z.f0 ∧ (ps.foldl (setP x) z).f1 = (ps.foldl (toldP x.f1 x.f2 x.f3 x.f4 x.f6.f0 x.f6.f1) y).d ∧ (ps.foldl (setP x) z).f2 = (ps.foldl (toldP x.f1 x.f2 x.f3 x.f4 x.f6.f0 x.f6.f1) y).a ∧
    (ps.foldl (setP x) z).f3 = (ps.foldl (toldP x.f1 x.f2 x.f3 x.f4 x.f6.f0 x.f6.f1) y).b ∧ (ps.foldl (setP x) z).f4 = (ps.foldl (toldP x.f1 x.f2 x.f3 x.f4 x.f6.f0 x.f6.f1) y).n ∧
    ((ps.foldl (setP x) z).f5 = if (ps.foldl (toldP x.f1 x.f2 x.f3 x.f4 x.f6.f0 x.f6.f1) y).l = true then x.f5 else []) ∧
    (ps.foldl (setP x) z).f6.f0 = (ps.foldl (toldP x.f1 x.f2 x.f3 x.f4 x.f6.f0 x.f6.f1) y).t0 ∧ (ps.foldl (setP x) z).f6.f1 = (ps.foldl (toldP x.f1 x.f2 x.f3 x.f4 x.f6.f0 x.f6.f1) y).t1 := by
  intro ps
  induction ps with
  | nil => intro y z h1 h2 h3 h4 h5 h6 h7; exact ⟨rfl, h1, h2, h3, h4, h5, h6, h7⟩
  | cons p ps ih =>
    intro y z h1 h2 h3 h4 h5 h6 h7
    have e0 : (setP x z p).f0 = z.f0 := by unfold setP; repeat' (first | rfl | split)
    rw [List.foldl_cons, List.foldl_cons, ← e0]
    apply ih
    all_goals
      unfold setP toldP
      by_cases k0 : p = 0
      · simp [k0, *]
      by_cases k1 : p = 1
      · simp [k1, *]
      by_cases k2 : p = 2
      · simp [k2, *]
      by_cases k3 : p = 3
      · simp [k3, *]
      by_cases k4 : p = 4
      · simp [k4, *]
      by_cases k5 : p = 5
      · simp [k5, *]
      by_cases k6 : p = 6
      · simp [k6, *]
      by_cases k7 : p = 7
      · simp [k7, *]
      simp [k0, k1, k2, k3, k4, k5, k6, k7, *]
def okW (x : S37) (p : Int) : Prop :=
  if p = 0 then -1 ≤ x.f1 ∧ x.f1 ≤ 4095 else if p = 1 then (x.f0 = 21 → 0 ≤ x.f2 ∧ x.f2 ≤ 31) ∧ (x.f0 ≠ 21 → -1 ≤ x.f2 ∧ x.f2 ≤ 4095) else if p = 2 then -1 ≤ x.f3 ∧ x.f3 ≤ 4095
  else if p = 3 then -9223372036854775808 ≤ x.f4 ∧ x.f4 ≤ 9223372036854775807 else if p = 4 then -9223372036854775808 ≤ x.f4 ∧ x.f4 ≤ 9223372036854775807 else if p = 5 then x.f5.length ≤ 8 ∧ ∀ v ∈ x.f5, 0 ≤ v ∧ v ≤ 4095
  else if p = 6 then 0 ≤ x.f6.f0 ∧ x.f6.f0 ≤ 65535 else if p = 7 then (0 ≤ x.f6.f0 ∧ x.f6.f0 ≤ 65535) ∧ 0 ≤ x.f6.f1 ∧ x.f6.f1 ≤ 65535 else True
structure GoodI (x : S37) : Prop where
  ne : piecesL x.f0 ≠ []
  r : ∀ p ∈ piecesL x.f0, okW x p
  e : (piecesL x.f0).foldl (setP x) (blankP x.f0) = x
structure GoodB (f : S33) : Prop where
  p : f.f0.length ≤ 8 ∧ ∀ v ∈ f.f0, 0 ≤ v ∧ v ≤ 4095
  s : 1 ≤ f.f1 ∧ f.f1 ≤ 4096
  n : f.f2.length ≤ 65536
  i : ∀ x ∈ f.f2, GoodI x
theorem good_inst {x : S37} {size n funcs : Int} (hsz : size ≤ 4096) (hn : n ≤ 65536) (hfu : funcs ≤ 32) (hw : -9223372036854775808 ≤ x.f4 ∧ x.f4 ≤ 9223372036854775807) (h : instOf size n funcs x = true) : GoodI x := by
  unfold instOf instB at h
  simp only [Bool.and_eq_true, beq_iff_eq] at h
  obtain ⟨⟨hp, hall⟩, ⟨⟨⟨⟨⟨⟨c1, c2⟩, c3⟩, c4⟩, c5⟩, c6⟩, c7⟩⟩ := h
  have hne : piecesL x.f0 ≠ [] := by intro e; rw [e] at hp; simp at hp
  refine ⟨hne, fun p hp2 => ?_, ?_⟩
  · have hk := List.all_eq_true.mp hall p hp2
    unfold okP at hk
    unfold okW
    by_cases h0 : p = 0
    · subst h0; simp only [if_true] at hk ⊢
      unfold withinB at hk
      simp only [Bool.or_eq_true, Bool.and_eq_true, decide_eq_true_eq, beq_iff_eq] at hk
      omega
    rw [if_neg h0] at hk ⊢
    by_cases h1 : p = 1
    · subst h1; simp only [if_true] at hk ⊢
      by_cases ho : x.f0 = 21
      · rw [if_pos ho] at hk
        simp only [Bool.and_eq_true, decide_eq_true_eq] at hk
        exact ⟨fun _ => by omega, fun h => absurd ho h⟩
      · rw [if_neg ho] at hk
        unfold withinB at hk
        simp only [Bool.or_eq_true, Bool.and_eq_true, decide_eq_true_eq, beq_iff_eq] at hk
        exact ⟨fun h => absurd h ho, fun _ => by omega⟩
    rw [if_neg h1] at hk ⊢
    by_cases h2 : p = 2
    · subst h2; simp only [if_true] at hk ⊢
      unfold withinB at hk
      simp only [Bool.or_eq_true, Bool.and_eq_true, decide_eq_true_eq, beq_iff_eq] at hk
      omega
    rw [if_neg h2] at hk ⊢
    by_cases h3 : p = 3
    · subst h3; simp only [if_true] at hk ⊢
      simp only [Bool.and_eq_true, decide_eq_true_eq] at hk
      omega
    rw [if_neg h3] at hk ⊢
    by_cases h4 : p = 4
    · subst h4; simp only [if_true]; exact hw
    rw [if_neg h4] at hk ⊢
    by_cases h5 : p = 5
    · subst h5; simp only [if_true] at hk ⊢
      simp only [Bool.and_eq_true, decide_eq_true_eq, Bool.not_eq_true'] at hk
      refine ⟨hk.1, fun v hv => ?_⟩
      have := List.any_eq_false.mp hk.2 v hv
      unfold offB at this
      simp only [Bool.or_eq_true, decide_eq_true_eq] at this
      omega
    rw [if_neg h5] at hk ⊢
    by_cases h6 : p = 6
    · subst h6; simp only [if_true] at hk ⊢
      simp only [Bool.and_eq_true, decide_eq_true_eq] at hk
      omega
    rw [if_neg h6] at hk ⊢
    by_cases h7 : p = 7
    · subst h7; simp only [if_true] at hk ⊢
      simp only [Bool.and_eq_true, decide_eq_true_eq] at hk
      omega
    rw [if_neg h7]; trivial
  · obtain ⟨g0, g1, g2, g3, g4, g5, g6, g7⟩ := told_set x (piecesL x.f0) told0 (blankP x.f0) rfl rfl rfl rfl rfl rfl rfl
    rw [← c1] at g1
    rw [← c2] at g2
    rw [← c3] at g3
    rw [← c4] at g4
    rw [← c5] at g6
    rw [← c6] at g7
    have g8 : ((piecesL x.f0).foldl (setP x) (blankP x.f0)).f5 = x.f5 := by
      rw [g5]
      by_cases hl : ((piecesL x.f0).foldl (toldP x.f1 x.f2 x.f3 x.f4 x.f6.f0 x.f6.f1) told0).l = true
      · rw [if_pos hl]
      · rw [if_neg hl] at c7 ⊢
        exact (List.eq_nil_of_length_eq_zero (by simpa using c7)).symm
    generalize (piecesL x.f0).foldl (setP x) (blankP x.f0) = z at *
    obtain ⟨z0, z1, z2, z3, z4, z5, ⟨z6, z7⟩⟩ := z
    obtain ⟨x0, x1, x2, x3, x4, x5, ⟨x6, x7⟩⟩ := x
    simp only at g0 g1 g2 g3 g4 g6 g7 g8
    subst g1; subst g2; subst g3; subst g4; subst g6; subst g7; subst g8
    rw [show z0 = x0 from g0]
theorem good_body {f : S33} {funcs : Int} (hfu : funcs ≤ 32) (hw : ∀ x ∈ f.f2, -9223372036854775808 ≤ x.f4 ∧ x.f4 ≤ 9223372036854775807) (h : bodyErr f funcs = 0) : GoodB f := by
  unfold bodyErr at h
  by_cases h1 : f.f1 < 1 ∨ f.f1 > 4096 ∨ (f.f0.length : Int) > 8 ∨ (f.f2.length : Int) > 65536
  · rw [if_pos h1] at h; cases h
  rw [if_neg h1] at h
  by_cases h2 : f.f2.length = 0 ∨ lastOp f.f2 < 26 ∨ lastOp f.f2 > 29
  · rw [if_pos h2] at h; cases h
  rw [if_neg h2] at h
  by_cases h3 : f.f0.any (offB f.f1) = true
  · rw [if_pos h3] at h; cases h
  rw [if_neg h3] at h
  by_cases h4 : f.f2.all (instOf f.f1 (f.f2.length : Int) funcs) = true
  · refine ⟨⟨by omega, fun v hv => ?_⟩, by omega, by omega, fun x hx => good_inst (by omega) (by omega) hfu (hw x hx) (List.all_eq_true.mp h4 x hx)⟩
    have := List.any_eq_false.mp (by simpa using h3) v hv
    unfold offB at this
    simp only [Bool.or_eq_true, decide_eq_true_eq] at this
    omega
  · rw [if_neg h4] at h; cases h
theorem good_from (funcs : Int) (hfu : funcs ≤ 32) : ∀ (l : List S33) (i : Nat), (∀ f ∈ l, ∀ x ∈ f.f2, -9223372036854775808 ≤ x.f4 ∧ x.f4 ≤ 9223372036854775807) → (chkL funcs l i).1 = 0 → ∀ f ∈ l, GoodB f := by
  intro l
  induction l with
  | nil => intro i _ _ f hf; cases hf
  | cons f l ih =>
    intro i hw h g hg
    simp only [chkL] at h
    by_cases he : bodyErr f funcs = 0
    · rw [if_pos he] at h
      rcases List.mem_cons.1 hg with rfl | hg
      · exact good_body hfu (hw g (by simp)) he
      · exact ih (i + 1) (fun f hf => hw f (by simp [hf])) h g hg
    · rw [if_neg he] at h
      exact absurd h he
theorem good_all {l : List S33} (hw : ∀ f ∈ l, ∀ x ∈ f.f2, -9223372036854775808 ≤ x.f4 ∧ x.f4 ≤ 9223372036854775807) (h : (chk l).1 = 0) : l.length ≤ 32 ∧ ∀ f ∈ l, GoodB f := by
  unfold chk at h
  by_cases hl : (l.length : Int) > 32
  · rw [if_pos hl] at h; cases h
  · rw [if_neg hl] at h
    exact ⟨by omega, good_from _ (by omega) l 0 hw h⟩
end Go.Proofs.Ytkgjbdbhpohkiaa.CodeLaw
end
-- from YtkgjbdbhpohkiaaLiSplit
section
namespace Go.Proofs.Ytkgjbdbhpohkiaa.PLi
open Go.RowKit Go.Proofs.YtkgjbdbhpohkiaaW.PrintWords Go.Proofs.YtkgjbdbhpohkiaaW.PrintLast Go.Proofs.YtkgjbdbhpohkiaaW.PrintMore Go.Proofs.Ytkgjbdbhpohkiaa.Str
set_option linter.unusedVariables false
set_option linter.unusedSimpArgs false
end Go.Proofs.Ytkgjbdbhpohkiaa.PLi
end
-- from YtkgjbdbhpohkiaaLiText
section
namespace Go.Proofs.Ytkgjbdbhpohkiaa.LiText
open Go.RowKit Go.Proofs.YtkgjbdbhpohkiaaW.PrintWords Go.Proofs.YtkgjbdbhpohkiaaW.PrintLast Go.Proofs.YtkgjbdbhpohkiaaW.PrintMore Go.Proofs.Ytkgjbdbhpohkiaa.Str Go.Proofs.Ytkgjbdbhpohkiaa.Dig Go.Proofs.Ytkgjbdbhpohkiaa.DigLaw Go.Proofs.Ytkgjbdbhpohkiaa.CodeLaw Go.Proofs.Ytkgjbdbhpohkiaa.PLi Go.Proofs.Ytkgjbdbhpohkiaa.LiRead
set_option linter.unusedSimpArgs false
set_option linter.unusedVariables false
def lettP (op p : Int) : List UInt8 := if p = 0 then [100] else if p = 1 then (if op = 21 then [102] else [97]) else if p = 2 then [98] else if p = 3 then [110] else if p = 4 then [110] else if p = 5 then [108] else if p = 6 then [111] else if p = 7 then [111, 116] else []
theorem parts_pieces : ∀ n : Fin 31, (partsT n).data.toList = (piecesL ((n : Nat) : Int)).flatMap (lettP ((n : Nat) : Int)) := by decide +kernel
def okC (x : S37) (c : UInt8) : Prop :=
  if c = 100 then -1 ≤ x.f1 ∧ x.f1 ≤ 4095 else if c = 97 then -1 ≤ x.f2 ∧ x.f2 ≤ 4095 else if c = 98 then -1 ≤ x.f3 ∧ x.f3 ≤ 4095 else if c = 102 then 0 ≤ x.f2 ∧ x.f2 ≤ 31
  else if c = 110 then -9223372036854775808 ≤ x.f4 ∧ x.f4 ≤ 9223372036854775807 else if c = 108 then x.f5.length ≤ 8 ∧ ∀ v ∈ x.f5, 0 ≤ v ∧ v ≤ 4095
  else if c = 111 then 0 ≤ x.f6.f0 ∧ x.f6.f0 ≤ 65535 else if c = 116 then 0 ≤ x.f6.f1 ∧ x.f6.f1 ≤ 65535 else False
def setC (x y : S37) (c : UInt8) : S37 :=
  if c = 100 then ⟨y.f0, x.f1, y.f2, y.f3, y.f4, y.f5, y.f6⟩ else if c = 97 then ⟨y.f0, y.f1, x.f2, y.f3, y.f4, y.f5, y.f6⟩ else if c = 98 then ⟨y.f0, y.f1, y.f2, x.f3, y.f4, y.f5, y.f6⟩ else if c = 102 then ⟨y.f0, y.f1, x.f2, y.f3, y.f4, y.f5, y.f6⟩
  else if c = 110 then ⟨y.f0, y.f1, y.f2, y.f3, x.f4, y.f5, y.f6⟩ else if c = 108 then ⟨y.f0, y.f1, y.f2, y.f3, y.f4, x.f5, y.f6⟩ else if c = 111 then ⟨y.f0, y.f1, y.f2, y.f3, y.f4, y.f5, ⟨x.f6.f0, y.f6.f1⟩⟩ else if c = 116 then ⟨y.f0, y.f1, y.f2, y.f3, y.f4, y.f5, ⟨y.f6.f0, x.f6.f1⟩⟩ else y
theorem set_letters (x y : S37) (op p : Int) : (lettP op p).foldl (setC x) y = setP x y p := by
  unfold lettP setP
  by_cases h0 : p = 0
  · simp [h0, setC]
  by_cases h1 : p = 1
  · by_cases ho : op = 21 <;> simp [h1, ho, setC]
  by_cases h2 : p = 2
  · simp [h2, setC]
  by_cases h3 : p = 3
  · simp [h3, setC]
  by_cases h4 : p = 4
  · simp [h4, setC]
  by_cases h5 : p = 5
  · simp [h5, setC]
  by_cases h6 : p = 6
  · simp [h6, setC]
  by_cases h7 : p = 7
  · simp [h7, setC]
  simp [h0, h1, h2, h3, h4, h5, h6, h7]
theorem fold_letters (x : S37) (op : Int) : ∀ (ps : List Int) (y : S37), (ps.flatMap (lettP op)).foldl (setC x) y = ps.foldl (setP x) y := by
  intro ps
  induction ps with
  | nil => intro y; rfl
  | cons p ps ih => intro y; rw [List.flatMap_cons, List.foldl_append, set_letters, ih, List.foldl_cons]
theorem ok_letters (x : S37) (p : Int) (h : okW x p) : ∀ c ∈ lettP x.f0 p, okC x c := by
  intro c hc
  unfold lettP at hc
  unfold okW at h
  by_cases h0 : p = 0
  · rw [if_pos h0] at h hc; rw [List.mem_singleton] at hc; subst hc; exact h
  rw [if_neg h0] at h hc
  by_cases h1 : p = 1
  · rw [if_pos h1] at h hc
    by_cases ho : x.f0 = 21
    · rw [if_pos ho, List.mem_singleton] at hc; subst hc; exact h.1 ho
    · rw [if_neg ho, List.mem_singleton] at hc; subst hc; exact h.2 ho
  rw [if_neg h1] at h hc
  by_cases h2 : p = 2
  · rw [if_pos h2] at h hc; rw [List.mem_singleton] at hc; subst hc; exact h
  rw [if_neg h2] at h hc
  by_cases h3 : p = 3
  · rw [if_pos h3] at h hc; rw [List.mem_singleton] at hc; subst hc; exact h
  rw [if_neg h3] at h hc
  by_cases h4 : p = 4
  · rw [if_pos h4] at h hc; rw [List.mem_singleton] at hc; subst hc; exact h
  rw [if_neg h4] at h hc
  by_cases h5 : p = 5
  · rw [if_pos h5] at h hc; rw [List.mem_singleton] at hc; subst hc; exact h
  rw [if_neg h5] at h hc
  by_cases h6 : p = 6
  · rw [if_pos h6] at h hc; rw [List.mem_singleton] at hc; subst hc; exact h
  rw [if_neg h6] at h hc
  by_cases h7 : p = 7
  · rw [if_pos h7] at h hc
    rcases List.mem_cons.mp hc with rfl | hc
    · exact h.1
    · rw [List.mem_singleton] at hc; subst hc; exact h.2
  rw [if_neg h7] at hc
  cases hc
structure InstOk (x : S37) (n : Nat) : Prop where
  op : x.f0 = (n : Int)
  le : n ≤ 30
  ne : piecesL (n : Int) ≠ []
  ok : ∀ c ∈ (partsT n).data.toList, okC x c
  e : (partsT n).data.toList.foldl (setC x) ⟨(n : Int), -1, -1, -1, 0, [], ⟨0, 0⟩⟩ = x
theorem piecesL_in {op : Int} (h : piecesL op ≠ []) : 1 ≤ op ∧ op ≤ 30 := by
  unfold piecesL at h
  by_cases g : 1 ≤ op ∧ op ≤ 30
  · exact g
  · exfalso
    apply h
    repeat rw [if_neg (by omega)]
theorem inst_ok {x : S37} (h : GoodI x) : ∃ n, InstOk x n := by
  have hb := piecesL_in h.ne
  obtain ⟨n, hn⟩ := Int.eq_ofNat_of_zero_le (show 0 ≤ x.f0 by omega)
  have hn30 : n ≤ 30 := by omega
  have hp := parts_pieces ⟨n, by omega⟩
  replace hp : (partsT n).data.toList = (piecesL (n : Int)).flatMap (lettP (n : Int)) := hp
  refine ⟨n, hn, hn30, by rw [← hn]; exact h.ne, ?_, ?_⟩
  · rw [hp, ← hn]
    intro c hc
    obtain ⟨p, hp1, hp2⟩ := List.mem_flatMap.mp hc
    exact ok_letters x p (h.r p hp1) c hp2
  · rw [hp, fold_letters, ← hn]
    exact h.e
def slotW (s : Int) : List UInt8 := if s < 0 then [95] else 115 :: digs s
def joinS (ws : List (List UInt8)) : List UInt8 := Lib.join ws [32]
def listL (l : List Int) : List UInt8 := 40 :: joinS (l.map slotW) ++ [41]
def letterL (x : S37) (c : UInt8) : List UInt8 :=
  if c = 100 then slotW x.f1 else if c = 97 then slotW x.f2 else if c = 98 then slotW x.f3 else if c = 102 then 102 :: digs x.f2 else if c = 110 then digs x.f4 else if c = 108 then listL x.f5 else if c = 111 then 64 :: digs x.f6.f0 else if c = 116 then 64 :: digs x.f6.f1 else []
def instL (x : S37) (n : Nat) : List UInt8 := joinS ((wordT n).data.toList :: (partsT n).data.toList.map (letterL x))
theorem digs_len (n : Int) (h0 : -9223372036854775808 ≤ n) (h1 : n ≤ 9223372036854775807) : (digs n).length ≤ 20 := by
  have := pd_len 19 n.natAbs (by omega)
  unfold digs
  split
  · simp
  · split
    · rw [List.length_cons]; omega
    · omega
theorem slotW_len (s : Int) (h0 : -1 ≤ s) (h1 : s ≤ 4095) : (slotW s).length ≤ 21 := by
  have := digs_len s (by omega) (by omega)
  unfold slotW
  split
  · simp
  · rw [List.length_cons]; omega
theorem slot_some (s : Int) (h0 : -1 ≤ s) (h1 : s ≤ 4095) : listing_slot.f s = some (mk (slotW s)) := by
  unfold listing_slot.f slotW
  by_cases h : s < 0
  · rw [if_pos h, if_pos h]
  · have hl := digs_len s (by omega) (by omega)
    rw [if_neg h, if_neg h, small_some s (by omega) (by omega)]
    show (if 1 + (mk (digs s)).size ≤ _ then _ else _) = _
    rw [if_pos (by rw [mk_size]; omega), show (⟨#[115]⟩ : ByteArray) = mk [115] from rfl, mk_append]
    rfl
theorem joinTail_cons (w : List UInt8) (ws : List (List UInt8)) : Lib.joinTail [32] (w :: ws) = 32 :: (w ++ Lib.joinTail [32] ws) := by
  unfold Lib.joinTail
  rw [List.map_cons, List.flatten_cons]
  rfl
theorem joinS_cons (w : List UInt8) (ws : List (List UInt8)) : joinS (w :: ws) = w ++ Lib.joinTail [32] ws := Lib.join_cons w ws [32]
theorem joinTail_len (m : Nat) : ∀ ws : List (List UInt8), (∀ w ∈ ws, w.length ≤ m) → (Lib.joinTail [32] ws).length ≤ ws.length * (m + 1) := by
  intro ws
  induction ws with
  | nil => intro _; simp [Lib.joinTail]
  | cons w ws ih =>
    intro h
    rw [joinTail_cons, List.length_cons, List.length_append, List.length_cons, Nat.succ_mul]
    have h1 := h w (by simp)
    have h2 := ih (fun v hv => h v (by simp [hv]))
    omega
theorem joinS_len (m : Nat) (ws : List (List UInt8)) (h : ∀ w ∈ ws, w.length ≤ m) : (joinS ws).length ≤ ws.length * (m + 1) := by
  cases ws with
  | nil => simp [joinS, Lib.join]
  | cons w ws =>
    rw [joinS_cons, List.length_append, List.length_cons, Nat.succ_mul]
    have h1 := h w (by simp)
    have h2 := joinTail_len m ws (fun v hv => h v (by simp [hv]))
    omega
theorem joinB_mk (ws : List (List UInt8)) : joinB (ws.map mk) (mk [32]) = mk (joinS ws) := by
  unfold joinB joinS
  rw [List.map_map, show ((fun x : ByteArray => x.data.toList) ∘ mk) = id from rfl, List.map_id]
theorem join_some (ws : List (List UInt8)) (hl : ws.length ≤ 1000000) (h : (joinS ws).length ≤ 140737488355328) : strings_Join.f (ws.map mk) (mk [32]) = some (mk (joinS ws)) := by
  unfold strings_Join.f
  rw [joinB_mk, if_pos ⟨by rw [List.length_map]; omega, by rw [mk_size]; exact h⟩]
theorem listL_len (l : List Int) (h : ∀ v ∈ l, 0 ≤ v ∧ v ≤ 4095) : (listL l).length ≤ 2 + 22 * l.length := by
  unfold listL
  have := joinS_len 21 (l.map slotW) (fun w hw => by
    obtain ⟨v, hv, rfl⟩ := List.mem_map.mp hw
    exact slotW_len v (by have := h v hv; omega) (by have := h v hv; omega))
  rw [List.length_map] at this
  simp only [List.length_append, List.length_cons, List.length_nil]
  omega
theorem list_l0 (l : List Int) (hl : l.length ≤ 8) (h : ∀ v ∈ l, 0 ≤ v ∧ v ≤ 4095) : ∀ (d i : Nat), l.length - i = d → i ≤ l.length → Ev (fun k => listing_list.l0 k (((l.take i).map slotW).map mk) l (l.length : Int) (i : Int)) (mk (listL l)) := by
  intro d
  induction d with
  | zero =>
    intro i hd hi
    have hlen := listL_len l h
    have e : l.take i = l := List.take_of_length_le (by omega)
    have hj : (joinS (l.map slotW)).length ≤ 200 := by unfold listL at hlen; simp only [List.length_append, List.length_cons, List.length_nil] at hlen; omega
    rw [e]
    refine Ev.step (fun k => by simp only [listing_list.l0]; rfl) (ev_neg (by omega) (ev_some (join_some (l.map slotW) (by rw [List.length_map]; omega) (by omega)) (ev_pos (c := 1 + (mk (joinS (l.map slotW))).size ≤ 9223372036854775807) (by rw [mk_size]; omega) ?_)))
    rw [show (⟨#[40]⟩ : ByteArray) = mk [40] from rfl, show (⟨#[41]⟩ : ByteArray) = mk [41] from rfl, mk_append]
    refine ev_pos (by rw [mk_size]; simp; omega) ?_
    rw [mk_append]
    exact Ev.now _
  | succ d ih =>
    intro i hd hi
    have hi' : i < l.length := by omega
    have hv := h _ (List.getElem_mem hi')
    have hw : wrap64 ((i : Int) + 1) = ((i + 1 : Nat) : Int) := by rw [w64 (by omega) (by omega)]; omega
    refine Ev.step (fun k => by simp only [listing_list.l0]; rfl) (ev_pos (by omega) (ev_pos (by omega) (ev_pos (by omega) ?_)))
    rw [rd_at l i hi']
    refine ev_some (slot_some _ (by omega) hv.2) (ev_pos (by rw [List.length_map, List.length_map, List.length_take]; omega) ?_)
    have hr := ih (i + 1) (by omega) (by omega)
    rw [List.take_succ_eq_append_getElem hi', List.map_append, List.map_append] at hr
    rw [hw]
    exact hr
theorem list_ev (l : List Int) (hl : l.length ≤ 8) (h : ∀ v ∈ l, 0 ≤ v ∧ v ≤ 4095) : Ev (fun k => listing_list.f k l) (mk (listL l)) := list_l0 l hl h _ 0 rfl (Nat.zero_le _)
theorem letter_len (x : S37) (c : UInt8) (h : okC x c) : (letterL x c).length ≤ 22 + 22 * x.f5.length := by
  unfold okC at h
  unfold letterL
  by_cases h0 : c = 100
  · rw [if_pos h0] at h ⊢; have := slotW_len _ h.1 h.2; omega
  rw [if_neg h0] at h ⊢
  by_cases h1 : c = 97
  · rw [if_pos h1] at h ⊢; have := slotW_len _ h.1 h.2; omega
  rw [if_neg h1] at h ⊢
  by_cases h2 : c = 98
  · rw [if_pos h2] at h ⊢; have := slotW_len _ h.1 h.2; omega
  rw [if_neg h2] at h ⊢
  by_cases h3 : c = 102
  · rw [if_pos h3] at h ⊢; have := digs_len x.f2 (by omega) (by omega); rw [List.length_cons]; omega
  rw [if_neg h3] at h ⊢
  by_cases h4 : c = 110
  · rw [if_pos h4] at h ⊢; have := digs_len _ h.1 h.2; omega
  rw [if_neg h4] at h ⊢
  by_cases h5 : c = 108
  · rw [if_pos h5] at h ⊢; have := listL_len _ h.2; omega
  rw [if_neg h5] at h ⊢
  by_cases h6 : c = 111
  · rw [if_pos h6] at h ⊢; have := digs_len x.f6.f0 (by omega) (by omega); rw [List.length_cons]; omega
  rw [if_neg h6] at h ⊢
  by_cases h7 : c = 116
  · rw [if_pos h7] at h ⊢; have := digs_len x.f6.f1 (by omega) (by omega); rw [List.length_cons]; omega
  rw [if_neg h7] at h
  exact h.elim
theorem small_at (b : UInt8) (v : Int) (h0 : 0 ≤ v) (h1 : v ≤ 65535) : ((digits_Small.f v).bind fun s => if 1 + s.size ≤ 9223372036854775807 then some (mk [b] ++ s) else none) = some (mk (b :: digs v)) := by
  have := digs_len v (by omega) (by omega)
  rw [small_some v (by omega) (by omega)]
  show (if 1 + (mk (digs v)).size ≤ _ then _ else _) = _
  rw [if_pos (by rw [mk_size]; omega), mk_append]
  rfl
theorem piece_ev (x : S37) (c : UInt8) (h : okC x c) : Ev (fun k => liPiece k x.f1 x.f2 x.f3 x.f4 x.f5 x.f6.f0 x.f6.f1 c.toNat) (mk (letterL x c)) := by
  unfold okC at h
  unfold letterL liPiece
  by_cases h0 : c = 100
  · subst h0; simp only [if_pos rfl] at h ⊢; exact Ev.congr (fun k => slot_some _ h.1 h.2) (Ev.now _)
  by_cases h1 : c = 97
  · subst h1; exact Ev.congr (fun k => slot_some _ h.1 h.2) (Ev.now _)
  by_cases h2 : c = 98
  · subst h2; exact Ev.congr (fun k => slot_some _ h.1 h.2) (Ev.now _)
  by_cases h3 : c = 102
  · subst h3; exact Ev.congr (fun k => small_at 102 x.f2 h.1 (by have h' : 0 ≤ x.f2 ∧ x.f2 ≤ 31 := h; omega)) (Ev.now _)
  by_cases h4 : c = 110
  · subst h4; exact Ev.congr (fun k => print_some _ h.1 h.2) (Ev.now _)
  by_cases h5 : c = 108
  · subst h5; exact list_ev x.f5 h.1 h.2
  by_cases h6 : c = 111
  · subst h6; exact Ev.congr (fun k => small_at 64 x.f6.f0 h.1 h.2) (Ev.now _)
  by_cases h7 : c = 116
  · subst h7; exact Ev.congr (fun k => small_at 64 x.f6.f1 h.1 h.2) (Ev.now _)
  rw [if_neg h0, if_neg h1, if_neg h2, if_neg h3, if_neg h4, if_neg h5, if_neg h6, if_neg h7] at h
  exact h.elim
theorem words_ev (x : S37) : ∀ cs : List UInt8, (∀ c ∈ cs, okC x c) → Ev (fun k => liWords k x.f1 x.f2 x.f3 x.f4 x.f5 x.f6.f0 x.f6.f1 cs) ((cs.map (letterL x)).map mk)
  | [], _ => Ev.now _
  | c :: cs, h => ev_bind'' (piece_ev x c (h c (by simp))) (ev_bind'' (words_ev x cs (fun d hd => h d (by simp [hd]))) (Ev.now _))
theorem word_ok : ∀ n : Fin 31, (wordT n).data.toList.length ≤ 10 ∧ (piecesL ((n : Nat) : Int) ≠ [] → (wordT n).data.toList ≠ [] ∧ (wordT n).data.toList.all (fun c => decide (kindR c.toNat = 2)) = true) := by decide +kernel
theorem instL_len {x : S37} {n : Nat} (h : InstOk x n) : (instL x n).length ≤ 196 + 176 * x.f5.length := by
  obtain ⟨ho, -⟩ := parts_ok ⟨n, by have := h.le; omega⟩
  have hw := (word_ok ⟨n, by have := h.le; omega⟩).1
  unfold instL
  rw [joinS_cons, List.length_append]
  have := joinTail_len (22 + 22 * x.f5.length) ((partsT n).data.toList.map (letterL x)) (fun w hw => by
    obtain ⟨c, hc, rfl⟩ := List.mem_map.mp hw
    exact letter_len x c (h.ok c hc))
  rw [List.length_map, ← size_data] at this
  have h8 : (partsT n).size ≤ 8 := ho.2
  have hw' : (wordT n).data.toList.length ≤ 10 := hw
  have : (partsT n).size * (22 + 22 * x.f5.length + 1) ≤ 8 * (22 + 22 * x.f5.length + 1) := Nat.mul_le_mul_right _ h8
  omega
theorem inst_ev {x : S37} {n : Nat} (h : InstOk x n) (hb : x.f5.length ≤ 1000000) : Ev (fun k => instS k x) (mk (instL x n)) := by
  have hn := h.le
  obtain ⟨ho, -⟩ := parts_ok ⟨n, by omega⟩
  unfold instS listing_Inst.f
  rw [h.op]
  refine ev_some (word_some ⟨n, by omega⟩) (ev_bind'' (parts_ev n hn) (ev_pos ho (ev_bind'' (words_ev x _ h.ok) ?_)))
  have hl := instL_len h
  have h8 : (partsT n).size ≤ 8 := ho.2
  have := join_some ((wordT n).data.toList :: (partsT n).data.toList.map (letterL x)) (by rw [List.length_cons, List.length_map, ← size_data]; omega) (by unfold instL at hl; omega)
  exact Ev.congr (fun k => this) (Ev.now _)
end Go.Proofs.Ytkgjbdbhpohkiaa.LiText
end
-- from YtkgjbdbhpohkiaaLiBack
section
namespace Go.Proofs.Ytkgjbdbhpohkiaa.LiText
open Go.RowKit Go.Proofs.YtkgjbdbhpohkiaaW.PrintWords Go.Proofs.YtkgjbdbhpohkiaaW.PrintLast Go.Proofs.YtkgjbdbhpohkiaaW.PrintMore Go.Proofs.Ytkgjbdbhpohkiaa.Str Go.Proofs.Ytkgjbdbhpohkiaa.Dig Go.Proofs.Ytkgjbdbhpohkiaa.DigLaw Go.Proofs.Ytkgjbdbhpohkiaa.CodeLaw Go.Proofs.Ytkgjbdbhpohkiaa.PLi Go.Proofs.Ytkgjbdbhpohkiaa.LiRead
set_option linter.unusedSimpArgs false
set_option linter.unusedVariables false
def lineL (x : S37) : List UInt8 := [32, 32] ++ instL x x.f0.toNat ++ [10]
def codeL (xs : List S37) : List UInt8 := xs.flatMap lineL
def headL (f : S33) : List UInt8 := [98, 111, 100, 121, 32] ++ listL f.f0 ++ [32] ++ digs f.f1 ++ [32, 123, 10]
def bodyL (f : S33) : List UInt8 := headL f ++ codeL f.f2 ++ [125, 10]
def textL (l : List S33) : List UInt8 := l.flatMap bodyL
theorem inst_nat {x : S37} (h : GoodI x) : InstOk x x.f0.toNat := by
  obtain ⟨n, hn⟩ := inst_ok h
  have : x.f0.toNat = n := by rw [hn.op]; omega
  rw [this]
  exact hn
theorem line_len {x : S37} (h : GoodI x) : (lineL x).length ≤ 200 * (1 + x.f5.length) := by
  have := instL_len (inst_nat h)
  unfold lineL
  simp only [List.length_append, List.length_cons, List.length_nil]
  omega
theorem code_len : ∀ xs : List S37, (∀ x ∈ xs, GoodI x) → (codeL xs).length ≤ 200 * wtI xs
  | [], _ => by simp [codeL]
  | x :: xs, h => by
    have h1 := line_len (h x (by simp))
    have h2 := code_len xs (fun y hy => h y (by simp [hy]))
    have e : wtI (x :: xs) = (1 + x.f5.length) + wtI xs := rfl
    have e2 : codeL (x :: xs) = lineL x ++ codeL xs := rfl
    rw [e, e2, List.length_append]
    omega
theorem head_len {f : S33} (h : GoodB f) : (headL f).length ≤ 31 + 22 * f.f0.length := by
  have h1 := listL_len f.f0 h.p.2
  have h2 := digs_len f.f1 (by have := h.s; omega) (by have := h.s; omega)
  unfold headL
  simp only [List.length_append, List.length_cons, List.length_nil]
  omega
theorem body_len {f : S33} (h : GoodB f) : (bodyL f).length ≤ 200 + 200 * wtB f := by
  have h1 := head_len h
  have h2 := code_len f.f2 h.i
  unfold bodyL wtB
  simp only [List.length_append, List.length_cons, List.length_nil]
  omega
theorem text_len : ∀ l : List S33, (∀ f ∈ l, GoodB f) → (textL l).length ≤ 200 * wtL l
  | [], _ => by simp [textL]
  | f :: l, h => by
    have h1 := body_len (h f (by simp))
    have h2 := text_len l (fun y hy => h y (by simp [hy]))
    have e : wtL (f :: l) = 1 + wtB f + wtL l := by
      show (l.length + 1) + (wtB f + (l.map wtB).sum) = _
      unfold wtL
      omega
    have e2 : textL (f :: l) = bodyL f ++ textL l := rfl
    rw [e, e2, List.length_append]
    omega
theorem code_ev : ∀ (xs : List S37) (acc : List UInt8), (∀ x ∈ xs, GoodI x) → (∀ x ∈ xs, x.f5.length ≤ 1000000) → acc.length + (codeL xs).length ≤ 140737488355328 → Ev (fun k => liCode k (mk acc) xs) (mk (acc ++ codeL xs))
  | [], acc, _, _, _ => by
    show Ev (fun _ => some (mk acc)) _
    rw [show codeL [] = [] from rfl, List.append_nil]
    exact Ev.now _
  | x :: xs, acc, h, hb, hl => by
    have e2 : codeL (x :: xs) = lineL x ++ codeL xs := rfl
    rw [e2, List.length_append] at hl
    have hi := inst_ev (inst_nat (h x (by simp))) (hb x (by simp))
    have hr := code_ev xs (acc ++ lineL x) (fun y hy => h y (by simp [hy])) (fun y hy => hb y (by simp [hy])) (by rw [List.length_append]; omega)
    have el : mk acc ++ lineS (mk (instL x x.f0.toNat)) = mk (acc ++ lineL x) := by
      unfold lineS lineL
      rw [show (⟨#[32, 32]⟩ : ByteArray) = mk [32, 32] from rfl, show (⟨#[10]⟩ : ByteArray) = mk [10] from rfl, mk_append, mk_append, mk_append]
    rw [e2, ← List.append_assoc]
    refine ev_bind'' hi (ev_pos ?_ ?_)
    · unfold lineL at hl
      simp only [List.length_append, List.length_cons, List.length_nil] at hl
      rw [mk_size, mk_size]
      omega
    · rw [el]
      exact hr
theorem text_ev : ∀ (l : List S33) (acc : List UInt8), (∀ f ∈ l, GoodB f) → (∀ f ∈ l, ∀ x ∈ f.f2, x.f5.length ≤ 1000000) → acc.length + (textL l).length ≤ 140737488355328 → Ev (fun k => liText k (mk acc) l) (mk (acc ++ textL l))
  | [], acc, _, _, _ => by
    show Ev (fun _ => some (mk acc)) _
    rw [show textL [] = [] from rfl, List.append_nil]
    exact Ev.now _
  | f :: l, acc, h, hb, hl => by
    have e2 : textL (f :: l) = bodyL f ++ textL l := rfl
    rw [e2, List.length_append] at hl
    have hf := h f (by simp)
    have hlen : (bodyL f).length = (headL f).length + (codeL f.f2).length + 2 := by unfold bodyL; simp only [List.length_append, List.length_cons, List.length_nil]
    have hhd : (headL f).length = 5 + (listL f.f0).length + 1 + (digs f.f1).length + 3 := by unfold headL; simp only [List.length_append, List.length_cons, List.length_nil]
    have hlist := list_ev f.f0 hf.p.1 hf.p.2
    have hsm := small_some f.f1 (by have := hf.s; omega) (by have := hf.s; omega)
    have hc := code_ev f.f2 (acc ++ headL f) hf.i (hb f (by simp)) (by rw [List.length_append]; omega)
    have hr := text_ev l (acc ++ bodyL f) (fun y hy => h y (by simp [hy])) (fun y hy => hb y (by simp [hy])) (by rw [List.length_append]; omega)
    have eh : mk acc ++ headS (mk (listL f.f0)) (mk (digs f.f1)) = mk (acc ++ headL f) := by
      unfold headS headL
      rw [show (⟨#[98, 111, 100, 121, 32]⟩ : ByteArray) = mk [98, 111, 100, 121, 32] from rfl, show (⟨#[32]⟩ : ByteArray) = mk [32] from rfl, show (⟨#[32, 123, 10]⟩ : ByteArray) = mk [32, 123, 10] from rfl, mk_append, mk_append, mk_append, mk_append, mk_append]
    have ee : mk (acc ++ headL f ++ codeL f.f2) ++ (⟨#[125, 10]⟩ : ByteArray) = mk (acc ++ bodyL f) := by
      rw [show (⟨#[125, 10]⟩ : ByteArray) = mk [125, 10] from rfl, mk_append]
      unfold bodyL
      simp only [List.append_assoc]
    rw [e2, ← List.append_assoc]
    refine ev_bind'' hlist (ev_some hsm (ev_pos (by rw [mk_size, mk_size, mk_size]; omega) ?_))
    rw [eh]
    refine ev_bind'' hc (ev_pos (by rw [mk_size, List.length_append, List.length_append]; omega) ?_)
    rw [ee]
    exact hr
theorem listing_text {l : List S33} (hl : l.length ≤ 32) (h : ∀ f ∈ l, GoodB f) (hb : ∀ f ∈ l, ∀ x ∈ f.f2, x.f5.length ≤ 1000000) (ht : (textL l).length ≤ 140737488355328) : Ev (fun k => listing_Text.f k l) (mk (textL l)) := by
  unfold listing_Text.f
  have := text_ev l [] h hb (by rw [List.length_nil]; omega)
  rw [List.nil_append] at this
  exact ev_pos (c := l.length ≤ 140737488355328 ∧ ∀ x ∈ l, x.f2.length ≤ 140737488355328) ⟨by omega, fun x hx => by have := (h x hx).n; omega⟩ this
end Go.Proofs.Ytkgjbdbhpohkiaa.LiText
end
