import Derived.Test.YtkgjbdbhpohkiaaMb13
import Derived.Test.YtkgjbdbhpohkiaaMb20
import Derived.Test.YtkgjbdbhpohkiaaMb17
import Derived.Test.YtkgjbdbhpohkiaaMb2
import Derived.Test.YtkgjbdbhpohkiaaMb4
section
/- What the program tells of bodies is what the reference tells: the pieces of an operation, one instruction, one body, all of them. -/
namespace Go.Proofs.Ytkgjbdbhpohkiaa.CodeLaw
open Go.RowKit Go.Proofs.Ytkgjbdbhpohkiaa.PLi Go.Proofs.YtkgjbdbhpohkiaaW.PrintWords Go.Proofs.YtkgjbdbhpohkiaaW.PrintLast Go.Proofs.YtkgjbdbhpohkiaaW.PrintMore Go.Proofs.Ytkgjbdbhpohkiaa.Str
set_option linter.unusedSimpArgs false
set_option linter.unusedVariables false

/-! ### how large bodies are -/
def wtI (l : List S37) : Nat := (l.map fun x => 1 + x.f5.length).sum
def wtB (f : S33) : Nat := f.f0.length + wtI f.f2
def wtL (l : List S33) : Nat := l.length + (l.map wtB).sum
section
variable (l : List S33) (hl : l.length ≤ 140737488351232) (hp : ∀ f ∈ l, f.f0.length ≤ 140737488351232) (hb : ∀ f ∈ l, f.f2.length ≤ 140737488351232) (ha : ∀ f ∈ l, ∀ x ∈ f.f2, x.f5.length ≤ 140737488351232)
include hl hp hb ha
omit hp in
theorem weight_l1 (i : Nat) (hi : i < l.length) (next : ∀ acc : Nat, acc ≤ 281474976710655 → ∃ r : Nat, Ev (fun k => turntableref33_Weight.l0 k l 300 (acc : Int) (wrap64 ((i : Int) + 1))) (r : Int) ∧ (r ≤ 300 → acc + ((l.drop (i + 1)).map wtB).sum ≤ 300)) :
    ∀ (d j acc : Nat), l[i].f2.length - j = d → acc ≤ 281474976710655 → ∃ r : Nat, Ev (fun k => turntableref33_Weight.l1 k l 300 (acc : Int) (i : Int) (j : Int)) (r : Int) ∧ (r ≤ 300 → acc + wtI (l[i].f2.drop j) + ((l.drop (i + 1)).map wtB).sum ≤ 300) := by
  intro d
  have hbi := hb _ (List.getElem_mem hi)
  induction d with
  | zero =>
    intro j acc hd ha'
    obtain ⟨r, hr, hr2⟩ := next acc ha'
    refine ⟨r, Ev.step (fun k => by simp only [turntableref33_Weight.l1]; rfl) (ev_pos (by omega) (ev_pos (by omega) (ev_neg (by rw [rd47_at l i hi]; omega) hr))), fun h => ?_⟩
    rw [List.drop_eq_nil_of_le (by omega)]
    have := hr2 h
    simpa [wtI] using this
  | succ d ih =>
    intro j acc hd ha'
    have hj : j < l[i].f2.length := by omega
    by_cases hac : acc ≤ 300
    · have hx := ha _ (List.getElem_mem hi) _ (List.getElem_mem hj)
      obtain ⟨r, hr, hr2⟩ := ih (j + 1) (acc + (1 + l[i].f2[j].f5.length)) (by omega) (by omega)
      refine ⟨r, Ev.step (fun k => by simp only [turntableref33_Weight.l1]; rfl) (ev_pos (by omega) (ev_pos (by omega) (ev_pos (by rw [rd47_at l i hi]; omega) (ev_pos (by omega) (ev_pos (by omega) ?_))))), fun h => ?_⟩
      · rw [rd47_at l i hi, rd51_at _ j hj]
        have e1 : wrap64 ((j : Int) + 1) = ((j + 1 : Nat) : Int) := by rw [w64 (by omega) (by omega)]; omega
        have e2 : wrap64 ((wrap64 ((acc : Int) + 1)) + ((l[i].f2[j].f5.length : Nat) : Int)) = ((acc + (1 + l[i].f2[j].f5.length) : Nat) : Int) := by rw [w64 (x := (acc : Int) + 1) (by omega) (by omega), w64 (by omega) (by omega)]; omega
        rw [e1, e2]
        exact hr
      · have := hr2 h
        rw [List.drop_eq_getElem_cons hj]
        show acc + wtI (l[i].f2[j] :: l[i].f2.drop (j + 1)) + _ ≤ 300
        have e : wtI (l[i].f2[j] :: l[i].f2.drop (j + 1)) = (1 + l[i].f2[j].f5.length) + wtI (l[i].f2.drop (j + 1)) := rfl
        rw [e]
        omega
    · obtain ⟨r, hr, hr2⟩ := next acc ha'
      have e : wrap64 ((i : Int) + 1) = ((i + 1 : Nat) : Int) := by rw [w64 (by omega) (by omega)]; omega
      exact ⟨r, Ev.step (fun k => by simp only [turntableref33_Weight.l1]; rfl) (ev_pos (by omega) (ev_pos (by omega) (ev_pos (by rw [rd47_at l i hi]; omega) (ev_neg (by omega) hr)))), fun h => absurd (hr2 h) (by omega)⟩
theorem weight_l0 : ∀ (d i acc : Nat), l.length - i = d → acc ≤ 281474976710655 → ∃ r : Nat, Ev (fun k => turntableref33_Weight.l0 k l 300 (acc : Int) (i : Int)) (r : Int) ∧ (r ≤ 300 → acc + ((l.drop i).map wtB).sum ≤ 300) := by
  intro d
  induction d with
  | zero =>
    intro i acc hd ha'
    exact ⟨acc, Ev.step (fun k => by simp only [turntableref33_Weight.l0]; rfl) (ev_neg (by omega) (Ev.step (fun k => by simp only [turntableref33_Weight.j1]; rfl) (ev_neg (by simp) (Ev.now _)))), fun h => by rw [List.drop_eq_nil_of_le (by omega)]; simpa using h⟩
  | succ d ih =>
    intro i acc hd ha'
    have hi : i < l.length := by omega
    have hpi := hp _ (List.getElem_mem hi)
    by_cases hac : acc ≤ 300
    · have e : wrap64 ((i : Int) + 1) = ((i + 1 : Nat) : Int) := by rw [w64 (by omega) (by omega)]; omega
      obtain ⟨r, hr, hr2⟩ := weight_l1 l hl hb ha i hi (fun acc h => by rw [e]; exact ih (i + 1) acc (by omega) h) _ 0 (acc + l[i].f0.length) rfl (by omega)
      refine ⟨r, Ev.step (fun k => by simp only [turntableref33_Weight.l0]; rfl) (ev_pos (by omega) (Ev.step (fun k => by simp only [turntableref33_Weight.j1]; rfl) (ev_pos (by simp; omega) (ev_pos (by omega) (ev_pos (by omega) ?_))))), fun h => ?_⟩
      · rw [rd47_at l i hi]
        have e2 : wrap64 ((acc : Int) + ((l[i].f0.length : Nat) : Int)) = ((acc + l[i].f0.length : Nat) : Int) := by rw [w64 (by omega) (by omega)]; omega
        rw [e2]
        exact hr
      · have := hr2 h
        rw [List.drop_eq_getElem_cons hi, List.map_cons, List.sum_cons]
        rw [List.drop_zero] at this
        show acc + ((l[i].f0.length + wtI l[i].f2) + _) ≤ 300
        omega
    · exact ⟨acc, Ev.step (fun k => by simp only [turntableref33_Weight.l0]; rfl) (ev_pos (by omega) (Ev.step (fun k => by simp only [turntableref33_Weight.j1]; rfl) (ev_neg (by simp; omega) (Ev.now _)))), fun h => absurd h hac⟩
theorem light_any : ∃ b, Ev (fun k => turntablelaw37_light.f k l) b ∧ (b = true → wtL l ≤ 300) := by
  obtain ⟨r, hr, hr2⟩ := weight_l0 l hl hp hb ha _ 0 l.length rfl (by omega)
  refine ⟨decide ((r : Int) ≤ 300), Ev.bind (f := fun _ t => some (decide (t ≤ 300))) (show Ev (fun k => turntableref33_Weight.f k l 300) (r : Int) from hr) (Ev.now _), fun h => ?_⟩
  have := hr2 (by have := of_decide_eq_true h; omega)
  rw [List.drop_zero] at this
  exact this
end

theorem ev_eq {α : Type} {g : Nat → Option α} {r r' : α} (h : r' = r) (k : Ev g r') : Ev g r := h ▸ k
theorem bool_ext {x y : Bool} (h : x = true ↔ y = true) : x = y := by cases x <;> cases y <;> simp_all
theorem refB_1 (d a b nn : Int) (l : List Int) (t0 t1 size n funcs : Int) : refB 1 d a b nn l t0 t1 size n funcs = instB 1 d a b nn l t0 t1 size n funcs := by
  unfold refB instB
  rw [show piecesS 1 = (⟨#[100, 119]⟩ : ByteArray) by decide, show piecesL 1 = [0, 4] by decide]
  simp only [hasC, toList_eq]
  cases h : l.any (offB size)
  all_goals
    apply bool_ext
    simp [okP, toldP, told0, withinB, emptyB, slotB, placeB, allB, h]
    try simp only [← List.length_eq_zero_iff]
    try omega
theorem refB_2 (d a b nn : Int) (l : List Int) (t0 t1 size n funcs : Int) : refB 2 d a b nn l t0 t1 size n funcs = instB 2 d a b nn l t0 t1 size n funcs := by
  unfold refB instB
  rw [show piecesS 2 = (⟨#[100, 97, 98]⟩ : ByteArray) by decide, show piecesL 2 = [0, 1, 2] by decide]
  simp only [hasC, toList_eq]
  cases h : l.any (offB size)
  all_goals
    apply bool_ext
    simp [okP, toldP, told0, withinB, emptyB, slotB, placeB, allB, h]
    try simp only [← List.length_eq_zero_iff]
    try omega
theorem refB_3 (d a b nn : Int) (l : List Int) (t0 t1 size n funcs : Int) : refB 3 d a b nn l t0 t1 size n funcs = instB 3 d a b nn l t0 t1 size n funcs := by
  unfold refB instB
  rw [show piecesS 3 = (⟨#[100, 97, 98]⟩ : ByteArray) by decide, show piecesL 3 = [0, 1, 2] by decide]
  simp only [hasC, toList_eq]
  cases h : l.any (offB size)
  all_goals
    apply bool_ext
    simp [okP, toldP, told0, withinB, emptyB, slotB, placeB, allB, h]
    try simp only [← List.length_eq_zero_iff]
    try omega
theorem refB_4 (d a b nn : Int) (l : List Int) (t0 t1 size n funcs : Int) : refB 4 d a b nn l t0 t1 size n funcs = instB 4 d a b nn l t0 t1 size n funcs := by
  unfold refB instB
  rw [show piecesS 4 = (⟨#[100, 97, 98]⟩ : ByteArray) by decide, show piecesL 4 = [0, 1, 2] by decide]
  simp only [hasC, toList_eq]
  cases h : l.any (offB size)
  all_goals
    apply bool_ext
    simp [okP, toldP, told0, withinB, emptyB, slotB, placeB, allB, h]
    try simp only [← List.length_eq_zero_iff]
    try omega
theorem refB_5 (d a b nn : Int) (l : List Int) (t0 t1 size n funcs : Int) : refB 5 d a b nn l t0 t1 size n funcs = instB 5 d a b nn l t0 t1 size n funcs := by
  unfold refB instB
  rw [show piecesS 5 = (⟨#[100, 97, 98]⟩ : ByteArray) by decide, show piecesL 5 = [0, 1, 2] by decide]
  simp only [hasC, toList_eq]
  cases h : l.any (offB size)
  all_goals
    apply bool_ext
    simp [okP, toldP, told0, withinB, emptyB, slotB, placeB, allB, h]
    try simp only [← List.length_eq_zero_iff]
    try omega
theorem refB_6 (d a b nn : Int) (l : List Int) (t0 t1 size n funcs : Int) : refB 6 d a b nn l t0 t1 size n funcs = instB 6 d a b nn l t0 t1 size n funcs := by
  unfold refB instB
  rw [show piecesS 6 = (⟨#[100, 97, 98]⟩ : ByteArray) by decide, show piecesL 6 = [0, 1, 2] by decide]
  simp only [hasC, toList_eq]
  cases h : l.any (offB size)
  all_goals
    apply bool_ext
    simp [okP, toldP, told0, withinB, emptyB, slotB, placeB, allB, h]
    try simp only [← List.length_eq_zero_iff]
    try omega
theorem refB_7 (d a b nn : Int) (l : List Int) (t0 t1 size n funcs : Int) : refB 7 d a b nn l t0 t1 size n funcs = instB 7 d a b nn l t0 t1 size n funcs := by
  unfold refB instB
  rw [show piecesS 7 = (⟨#[100, 97, 98]⟩ : ByteArray) by decide, show piecesL 7 = [0, 1, 2] by decide]
  simp only [hasC, toList_eq]
  cases h : l.any (offB size)
  all_goals
    apply bool_ext
    simp [okP, toldP, told0, withinB, emptyB, slotB, placeB, allB, h]
    try simp only [← List.length_eq_zero_iff]
    try omega
theorem refB_9 (d a b nn : Int) (l : List Int) (t0 t1 size n funcs : Int) : refB 9 d a b nn l t0 t1 size n funcs = instB 9 d a b nn l t0 t1 size n funcs := by
  unfold refB instB
  rw [show piecesS 9 = (⟨#[100, 97, 98]⟩ : ByteArray) by decide, show piecesL 9 = [0, 1, 2] by decide]
  simp only [hasC, toList_eq]
  cases h : l.any (offB size)
  all_goals
    apply bool_ext
    simp [okP, toldP, told0, withinB, emptyB, slotB, placeB, allB, h]
    try simp only [← List.length_eq_zero_iff]
    try omega
theorem refB_8 (d a b nn : Int) (l : List Int) (t0 t1 size n funcs : Int) : refB 8 d a b nn l t0 t1 size n funcs = instB 8 d a b nn l t0 t1 size n funcs := by
  unfold refB instB
  rw [show piecesS 8 = (⟨#[100]⟩ : ByteArray) by decide, show piecesL 8 = [0] by decide]
  simp only [hasC, toList_eq]
  cases h : l.any (offB size)
  all_goals
    apply bool_ext
    simp [okP, toldP, told0, withinB, emptyB, slotB, placeB, allB, h]
    try simp only [← List.length_eq_zero_iff]
    try omega
theorem refB_10 (d a b nn : Int) (l : List Int) (t0 t1 size n funcs : Int) : refB 10 d a b nn l t0 t1 size n funcs = instB 10 d a b nn l t0 t1 size n funcs := by
  unfold refB instB
  rw [show piecesS 10 = (⟨#[100, 115]⟩ : ByteArray) by decide, show piecesL 10 = [0, 3] by decide]
  simp only [hasC, toList_eq]
  cases h : l.any (offB size)
  all_goals
    apply bool_ext
    simp [okP, toldP, told0, withinB, emptyB, slotB, placeB, allB, h]
    try simp only [← List.length_eq_zero_iff]
    try omega
theorem refB_11 (d a b nn : Int) (l : List Int) (t0 t1 size n funcs : Int) : refB 11 d a b nn l t0 t1 size n funcs = instB 11 d a b nn l t0 t1 size n funcs := by
  unfold refB instB
  rw [show piecesS 11 = (⟨#[100, 97, 115]⟩ : ByteArray) by decide, show piecesL 11 = [0, 1, 3] by decide]
  simp only [hasC, toList_eq]
  cases h : l.any (offB size)
  all_goals
    apply bool_ext
    simp [okP, toldP, told0, withinB, emptyB, slotB, placeB, allB, h]
    try simp only [← List.length_eq_zero_iff]
    try omega
theorem refB_12 (d a b nn : Int) (l : List Int) (t0 t1 size n funcs : Int) : refB 12 d a b nn l t0 t1 size n funcs = instB 12 d a b nn l t0 t1 size n funcs := by
  unfold refB instB
  rw [show piecesS 12 = (⟨#[100, 97, 115]⟩ : ByteArray) by decide, show piecesL 12 = [0, 1, 3] by decide]
  simp only [hasC, toList_eq]
  cases h : l.any (offB size)
  all_goals
    apply bool_ext
    simp [okP, toldP, told0, withinB, emptyB, slotB, placeB, allB, h]
    try simp only [← List.length_eq_zero_iff]
    try omega
theorem refB_15 (d a b nn : Int) (l : List Int) (t0 t1 size n funcs : Int) : refB 15 d a b nn l t0 t1 size n funcs = instB 15 d a b nn l t0 t1 size n funcs := by
  unfold refB instB
  rw [show piecesS 15 = (⟨#[100, 97, 115]⟩ : ByteArray) by decide, show piecesL 15 = [0, 1, 3] by decide]
  simp only [hasC, toList_eq]
  cases h : l.any (offB size)
  all_goals
    apply bool_ext
    simp [okP, toldP, told0, withinB, emptyB, slotB, placeB, allB, h]
    try simp only [← List.length_eq_zero_iff]
    try omega
theorem refB_13 (d a b nn : Int) (l : List Int) (t0 t1 size n funcs : Int) : refB 13 d a b nn l t0 t1 size n funcs = instB 13 d a b nn l t0 t1 size n funcs := by
  unfold refB instB
  rw [show piecesS 13 = (⟨#[97, 98, 115]⟩ : ByteArray) by decide, show piecesL 13 = [1, 2, 3] by decide]
  simp only [hasC, toList_eq]
  cases h : l.any (offB size)
  all_goals
    apply bool_ext
    simp [okP, toldP, told0, withinB, emptyB, slotB, placeB, allB, h]
    try simp only [← List.length_eq_zero_iff]
    try omega
theorem refB_14 (d a b nn : Int) (l : List Int) (t0 t1 size n funcs : Int) : refB 14 d a b nn l t0 t1 size n funcs = instB 14 d a b nn l t0 t1 size n funcs := by
  unfold refB instB
  rw [show piecesS 14 = (⟨#[97, 98, 115]⟩ : ByteArray) by decide, show piecesL 14 = [1, 2, 3] by decide]
  simp only [hasC, toList_eq]
  cases h : l.any (offB size)
  all_goals
    apply bool_ext
    simp [okP, toldP, told0, withinB, emptyB, slotB, placeB, allB, h]
    try simp only [← List.length_eq_zero_iff]
    try omega
theorem refB_16 (d a b nn : Int) (l : List Int) (t0 t1 size n funcs : Int) : refB 16 d a b nn l t0 t1 size n funcs = instB 16 d a b nn l t0 t1 size n funcs := by
  unfold refB instB
  rw [show piecesS 16 = (⟨#[100, 97]⟩ : ByteArray) by decide, show piecesL 16 = [0, 1] by decide]
  simp only [hasC, toList_eq]
  cases h : l.any (offB size)
  all_goals
    apply bool_ext
    simp [okP, toldP, told0, withinB, emptyB, slotB, placeB, allB, h]
    try simp only [← List.length_eq_zero_iff]
    try omega
theorem refB_17 (d a b nn : Int) (l : List Int) (t0 t1 size n funcs : Int) : refB 17 d a b nn l t0 t1 size n funcs = instB 17 d a b nn l t0 t1 size n funcs := by
  unfold refB instB
  rw [show piecesS 17 = (⟨#[100, 97]⟩ : ByteArray) by decide, show piecesL 17 = [0, 1] by decide]
  simp only [hasC, toList_eq]
  cases h : l.any (offB size)
  all_goals
    apply bool_ext
    simp [okP, toldP, told0, withinB, emptyB, slotB, placeB, allB, h]
    try simp only [← List.length_eq_zero_iff]
    try omega
theorem refB_30 (d a b nn : Int) (l : List Int) (t0 t1 size n funcs : Int) : refB 30 d a b nn l t0 t1 size n funcs = instB 30 d a b nn l t0 t1 size n funcs := by
  unfold refB instB
  rw [show piecesS 30 = (⟨#[100, 97]⟩ : ByteArray) by decide, show piecesL 30 = [0, 1] by decide]
  simp only [hasC, toList_eq]
  cases h : l.any (offB size)
  all_goals
    apply bool_ext
    simp [okP, toldP, told0, withinB, emptyB, slotB, placeB, allB, h]
    try simp only [← List.length_eq_zero_iff]
    try omega
theorem refB_18 (d a b nn : Int) (l : List Int) (t0 t1 size n funcs : Int) : refB 18 d a b nn l t0 t1 size n funcs = instB 18 d a b nn l t0 t1 size n funcs := by
  unfold refB instB
  rw [show piecesS 18 = (⟨#[97, 98]⟩ : ByteArray) by decide, show piecesL 18 = [1, 2] by decide]
  simp only [hasC, toList_eq]
  cases h : l.any (offB size)
  all_goals
    apply bool_ext
    simp [okP, toldP, told0, withinB, emptyB, slotB, placeB, allB, h]
    try simp only [← List.length_eq_zero_iff]
    try omega
theorem refB_19 (d a b nn : Int) (l : List Int) (t0 t1 size n funcs : Int) : refB 19 d a b nn l t0 t1 size n funcs = instB 19 d a b nn l t0 t1 size n funcs := by
  unfold refB instB
  rw [show piecesS 19 = (⟨#[97, 98]⟩ : ByteArray) by decide, show piecesL 19 = [1, 2] by decide]
  simp only [hasC, toList_eq]
  cases h : l.any (offB size)
  all_goals
    apply bool_ext
    simp [okP, toldP, told0, withinB, emptyB, slotB, placeB, allB, h]
    try simp only [← List.length_eq_zero_iff]
    try omega
theorem refB_21 (d a b nn : Int) (l : List Int) (t0 t1 size n funcs : Int) : refB 21 d a b nn l t0 t1 size n funcs = instB 21 d a b nn l t0 t1 size n funcs := by
  unfold refB instB
  rw [show piecesS 21 = (⟨#[100, 97, 115, 108]⟩ : ByteArray) by decide, show piecesL 21 = [0, 1, 3, 5] by decide]
  simp only [hasC, toList_eq]
  cases h : l.any (offB size)
  all_goals
    apply bool_ext
    simp [okP, toldP, told0, withinB, emptyB, slotB, placeB, allB, h]
    try simp only [← List.length_eq_zero_iff]
    try omega
theorem refB_22 (d a b nn : Int) (l : List Int) (t0 t1 size n funcs : Int) : refB 22 d a b nn l t0 t1 size n funcs = instB 22 d a b nn l t0 t1 size n funcs := by
  unfold refB instB
  rw [show piecesS 22 = (⟨#[97]⟩ : ByteArray) by decide, show piecesL 22 = [1] by decide]
  simp only [hasC, toList_eq]
  cases h : l.any (offB size)
  all_goals
    apply bool_ext
    simp [okP, toldP, told0, withinB, emptyB, slotB, placeB, allB, h]
    try simp only [← List.length_eq_zero_iff]
    try omega
theorem refB_25 (d a b nn : Int) (l : List Int) (t0 t1 size n funcs : Int) : refB 25 d a b nn l t0 t1 size n funcs = instB 25 d a b nn l t0 t1 size n funcs := by
  unfold refB instB
  rw [show piecesS 25 = (⟨#[97]⟩ : ByteArray) by decide, show piecesL 25 = [1] by decide]
  simp only [hasC, toList_eq]
  cases h : l.any (offB size)
  all_goals
    apply bool_ext
    simp [okP, toldP, told0, withinB, emptyB, slotB, placeB, allB, h]
    try simp only [← List.length_eq_zero_iff]
    try omega
theorem refB_28 (d a b nn : Int) (l : List Int) (t0 t1 size n funcs : Int) : refB 28 d a b nn l t0 t1 size n funcs = instB 28 d a b nn l t0 t1 size n funcs := by
  unfold refB instB
  rw [show piecesS 28 = (⟨#[97]⟩ : ByteArray) by decide, show piecesL 28 = [1] by decide]
  simp only [hasC, toList_eq]
  cases h : l.any (offB size)
  all_goals
    apply bool_ext
    simp [okP, toldP, told0, withinB, emptyB, slotB, placeB, allB, h]
    try simp only [← List.length_eq_zero_iff]
    try omega
theorem refB_23 (d a b nn : Int) (l : List Int) (t0 t1 size n funcs : Int) : refB 23 d a b nn l t0 t1 size n funcs = instB 23 d a b nn l t0 t1 size n funcs := by
  unfold refB instB
  rw [show piecesS 23 = (⟨#[115]⟩ : ByteArray) by decide, show piecesL 23 = [3] by decide]
  simp only [hasC, toList_eq]
  cases h : l.any (offB size)
  all_goals
    apply bool_ext
    simp [okP, toldP, told0, withinB, emptyB, slotB, placeB, allB, h]
    try simp only [← List.length_eq_zero_iff]
    try omega
theorem refB_29 (d a b nn : Int) (l : List Int) (t0 t1 size n funcs : Int) : refB 29 d a b nn l t0 t1 size n funcs = instB 29 d a b nn l t0 t1 size n funcs := by
  unfold refB instB
  rw [show piecesS 29 = (⟨#[115]⟩ : ByteArray) by decide, show piecesL 29 = [3] by decide]
  simp only [hasC, toList_eq]
  cases h : l.any (offB size)
  all_goals
    apply bool_ext
    simp [okP, toldP, told0, withinB, emptyB, slotB, placeB, allB, h]
    try simp only [← List.length_eq_zero_iff]
    try omega
theorem refB_26 (d a b nn : Int) (l : List Int) (t0 t1 size n funcs : Int) : refB 26 d a b nn l t0 t1 size n funcs = instB 26 d a b nn l t0 t1 size n funcs := by
  unfold refB instB
  rw [show piecesS 26 = (⟨#[111]⟩ : ByteArray) by decide, show piecesL 26 = [6] by decide]
  simp only [hasC, toList_eq]
  cases h : l.any (offB size)
  all_goals
    apply bool_ext
    simp [okP, toldP, told0, withinB, emptyB, slotB, placeB, allB, h]
    try simp only [← List.length_eq_zero_iff]
    try omega
theorem refB_27 (d a b nn : Int) (l : List Int) (t0 t1 size n funcs : Int) : refB 27 d a b nn l t0 t1 size n funcs = instB 27 d a b nn l t0 t1 size n funcs := by
  unfold refB instB
  rw [show piecesS 27 = (⟨#[97, 116]⟩ : ByteArray) by decide, show piecesL 27 = [1, 7] by decide]
  simp only [hasC, toList_eq]
  cases h : l.any (offB size)
  all_goals
    apply bool_ext
    simp [okP, toldP, told0, withinB, emptyB, slotB, placeB, allB, h]
    try simp only [← List.length_eq_zero_iff]
    try omega
theorem refB_none (op d a b nn : Int) (l : List Int) (t0 t1 size n funcs : Int) (h : ¬ (op = 1 ∨ op = 2 ∨ op = 3 ∨ op = 4 ∨ op = 5 ∨ op = 6 ∨ op = 7 ∨ op = 8 ∨ op = 9 ∨ op = 10 ∨ op = 11 ∨ op = 12 ∨ op = 13 ∨ op = 14 ∨ op = 15 ∨ op = 16 ∨ op = 17 ∨ op = 18 ∨ op = 19 ∨ op = 21 ∨ op = 22 ∨ op = 23 ∨ op = 25 ∨ op = 26 ∨ op = 27 ∨ op = 28 ∨ op = 29 ∨ op = 30)) : refB op d a b nn l t0 t1 size n funcs = instB op d a b nn l t0 t1 size n funcs := by
  simp only [not_or] at h
  unfold refB instB
  rw [show piecesS op = (⟨#[]⟩ : ByteArray) by unfold piecesS; simp [h], show piecesL op = [] by unfold piecesL; simp [h]]
  simp only [toList_eq]
  simp
theorem refB_eq (op d a b nn : Int) (l : List Int) (t0 t1 size n funcs : Int) : refB op d a b nn l t0 t1 size n funcs = instB op d a b nn l t0 t1 size n funcs := by
  by_cases h : op = 1 ∨ op = 2 ∨ op = 3 ∨ op = 4 ∨ op = 5 ∨ op = 6 ∨ op = 7 ∨ op = 8 ∨ op = 9 ∨ op = 10 ∨ op = 11 ∨ op = 12 ∨ op = 13 ∨ op = 14 ∨ op = 15 ∨ op = 16 ∨ op = 17 ∨ op = 18 ∨ op = 19 ∨ op = 21 ∨ op = 22 ∨ op = 23 ∨ op = 25 ∨ op = 26 ∨ op = 27 ∨ op = 28 ∨ op = 29 ∨ op = 30
  · rcases h with rfl | rfl | rfl | rfl | rfl | rfl | rfl | rfl | rfl | rfl | rfl | rfl | rfl | rfl | rfl | rfl | rfl | rfl | rfl | rfl | rfl | rfl | rfl | rfl | rfl | rfl | rfl | rfl
    · exact refB_1 d a b nn l t0 t1 size n funcs
    · exact refB_2 d a b nn l t0 t1 size n funcs
    · exact refB_3 d a b nn l t0 t1 size n funcs
    · exact refB_4 d a b nn l t0 t1 size n funcs
    · exact refB_5 d a b nn l t0 t1 size n funcs
    · exact refB_6 d a b nn l t0 t1 size n funcs
    · exact refB_7 d a b nn l t0 t1 size n funcs
    · exact refB_8 d a b nn l t0 t1 size n funcs
    · exact refB_9 d a b nn l t0 t1 size n funcs
    · exact refB_10 d a b nn l t0 t1 size n funcs
    · exact refB_11 d a b nn l t0 t1 size n funcs
    · exact refB_12 d a b nn l t0 t1 size n funcs
    · exact refB_13 d a b nn l t0 t1 size n funcs
    · exact refB_14 d a b nn l t0 t1 size n funcs
    · exact refB_15 d a b nn l t0 t1 size n funcs
    · exact refB_16 d a b nn l t0 t1 size n funcs
    · exact refB_17 d a b nn l t0 t1 size n funcs
    · exact refB_18 d a b nn l t0 t1 size n funcs
    · exact refB_19 d a b nn l t0 t1 size n funcs
    · exact refB_21 d a b nn l t0 t1 size n funcs
    · exact refB_22 d a b nn l t0 t1 size n funcs
    · exact refB_23 d a b nn l t0 t1 size n funcs
    · exact refB_25 d a b nn l t0 t1 size n funcs
    · exact refB_26 d a b nn l t0 t1 size n funcs
    · exact refB_27 d a b nn l t0 t1 size n funcs
    · exact refB_28 d a b nn l t0 t1 size n funcs
    · exact refB_29 d a b nn l t0 t1 size n funcs
    · exact refB_30 d a b nn l t0 t1 size n funcs
  · exact refB_none op d a b nn l t0 t1 size n funcs h
/-! ### a body, and all of them -/
def instOf (size n funcs : Int) (x : S37) : Bool := instB x.f0 x.f1 x.f2 x.f3 x.f4 x.f5 x.f6.f0 x.f6.f1 size n funcs
def lastOp (l : List S37) : Int := (rd_T37 l (wrap64 ((l.length : Int) - 1))).f0
def bodyErr (f : S33) (funcs : Int) : Int :=
  if f.f1 < 1 ∨ f.f1 > 4096 ∨ (f.f0.length : Int) > 8 ∨ (f.f2.length : Int) > 65536 then 6
  else if f.f2.length = 0 ∨ lastOp f.f2 < 26 ∨ lastOp f.f2 > 29 then 15
  else if f.f0.any (offB f.f1) = true then 8
  else if f.f2.all (instOf f.f1 (f.f2.length : Int) funcs) = true then 0 else 2
/-- Lists that are no longer than a machine has room for. -/
structure Fit (f : S33) : Prop where
  p : f.f0.length ≤ 9223372036854775806
  c : f.f2.length ≤ 9223372036854775806
  a : ∀ x ∈ f.f2, x.f5.length ≤ 9223372036854775806
theorem one_l0 (f : S33) (hf : Fit f) (funcs : Int) : ∀ (d i : Nat), f.f2.length - i = d → Ev (fun k => turntableref33_one.l0 k funcs (f.f2.length : Int) (i : Int) f.f0 f.f1 f.f2) (if (f.f2.drop i).all (instOf f.f1 (f.f2.length : Int) funcs) = true then 0 else 2) := by
  have hc := hf.c
  intro d
  induction d with
  | zero =>
    intro i hd
    refine Ev.step (fun k => by simp only [turntableref33_one.l0]; rfl) (ev_neg (by omega) ?_)
    rw [List.drop_eq_nil_of_le (by omega)]
    exact Ev.now _
  | succ d ih =>
    intro i hd
    have hi : i < f.f2.length := by omega
    refine Ev.step (fun k => by simp only [turntableref33_one.l0]; rfl) (ev_pos (by omega) (ev_pos (by omega) (ev_pos (by omega) ?_)))
    rw [rd51_at _ i hi, List.drop_eq_getElem_cons hi, List.all_cons]
    refine ev_some (show turntableref33_inst.f _ _ _ _ _ _ _ _ _ _ _ = some _ from if_pos (hf.a _ (List.getElem_mem hi))) ?_
    rw [refB_eq]
    show Ev _ (if (instOf f.f1 (f.f2.length : Int) funcs f.f2[i] && _) = true then 0 else 2)
    unfold instOf
    cases instB f.f2[i].f0 f.f2[i].f1 f.f2[i].f2 f.f2[i].f3 f.f2[i].f4 f.f2[i].f5 f.f2[i].f6.f0 f.f2[i].f6.f1 f.f1 (f.f2.length : Int) funcs
    · exact ev_neg (by simp) (ev_eq (by simp) (Ev.now _))
    · have hw : wrap64 ((i : Int) + 1) = ((i + 1 : Nat) : Int) := by rw [w64 (by omega) (by omega)]; omega
      rw [hw]
      exact ev_pos rfl (ev_eq (by simp [instOf]) (ih (i + 1) (by omega)))
theorem one_any (f : S33) (hf : Fit f) (funcs : Int) : Ev (fun k => turntableref33_one.f k f.f0 f.f1 f.f2 funcs) (bodyErr f funcs) := by
  have hc := hf.c
  have hp := hf.p
  have hj1 : ∀ x : Bool, ¬ (f.f1 < 1 ∨ f.f1 > 4096 ∨ (f.f0.length : Int) > 8 ∨ (f.f2.length : Int) > 65536) → (x = true ↔ (f.f2.length = 0 ∨ lastOp f.f2 < 26 ∨ lastOp f.f2 > 29)) → Ev (fun k => turntableref33_one.j1 k funcs (f.f2.length : Int) x f.f0 f.f1 f.f2) (bodyErr f funcs) := by
    intro x h6 hx
    refine Ev.step (fun k => by simp only [turntableref33_one.j1]; rfl) ?_
    unfold bodyErr
    rw [if_neg h6]
    cases x
    · rw [if_neg (fun h => by have := hx.2 h; cases this)]
      refine ev_neg (by simp) (ev_bind' (all_any f.f0 f.f1 hp) ?_)
      have hall : allB f.f0 f.f1 = !(f.f0.any (offB f.f1)) := by unfold allB; rw [decide_eq_true (by omega)]; simp
      rw [hall]
      cases f.f0.any (offB f.f1)
      · have := one_l0 f hf funcs _ 0 rfl
        exact ev_pos rfl (ev_eq (by simp) this)
      · exact ev_neg (by simp) (ev_eq (by simp) (Ev.now _))
    · rw [if_pos (hx.1 rfl)]
      exact ev_pos rfl (Ev.now _)
  have hj0 : ∀ x : Bool, (x = true ↔ (f.f1 < 1 ∨ f.f1 > 4096 ∨ (f.f0.length : Int) > 8 ∨ (f.f2.length : Int) > 65536)) → Ev (fun k => turntableref33_one.j0 k funcs (f.f2.length : Int) x f.f0 f.f1 f.f2) (bodyErr f funcs) := by
    intro x hx
    refine Ev.step (fun k => by simp only [turntableref33_one.j0]; rfl) ?_
    cases x
    · have h6 : ¬ (f.f1 < 1 ∨ f.f1 > 4096 ∨ (f.f0.length : Int) > 8 ∨ (f.f2.length : Int) > 65536) := fun h => by have := hx.2 h; cases this
      refine ev_neg (by simp) ?_
      by_cases h0 : (f.f2.length : Int) = 0
      · exact ev_pos h0 (hj1 true h6 ⟨fun _ => .inl (by omega), fun _ => rfl⟩)
      · have hw : wrap64 ((f.f2.length : Int) - 1) = (f.f2.length : Int) - 1 := w64 (by omega) (by omega)
        refine ev_neg h0 (ev_pos (by omega) (ev_pos (by omega) ?_))
        by_cases h1 : lastOp f.f2 < 26
        · exact ev_pos h1 (hj1 true h6 ⟨fun _ => .inr (.inl h1), fun _ => rfl⟩)
        · refine ev_neg h1 (hj1 _ h6 ⟨fun h => .inr (.inr (of_decide_eq_true h)), fun h => decide_eq_true ?_⟩)
          rcases h with h | h | h
          · omega
          · exact absurd h h1
          · exact h
    · unfold bodyErr
      rw [if_pos (hx.1 rfl)]
      exact ev_pos rfl (Ev.now _)
  unfold turntableref33_one.f
  by_cases h1 : f.f1 < 1
  · exact ev_pos h1 (hj0 true ⟨fun _ => .inl h1, fun _ => rfl⟩)
  · by_cases h2 : f.f1 > 4096
    · exact ev_neg h1 (ev_pos h2 (hj0 true ⟨fun _ => .inr (.inl h2), fun _ => rfl⟩))
    · by_cases h3 : (f.f0.length : Int) > 8
      · exact ev_neg h1 (ev_neg h2 (ev_pos h3 (hj0 true ⟨fun _ => .inr (.inr (.inl h3)), fun _ => rfl⟩)))
      · refine ev_neg h1 (ev_neg h2 (ev_neg h3 (hj0 _ ⟨fun h => .inr (.inr (.inr (of_decide_eq_true h))), fun h => decide_eq_true ?_⟩)))
        rcases h with h | h | h | h
        · exact absurd h h1
        · exact absurd h h2
        · exact absurd h h3
        · exact h

/-- What is wrong first, from the i-th body on. -/
def chkL (funcs : Int) : List S33 → Nat → Int × Int
  | [], _ => (0, 0)
  | f :: r, i => if bodyErr f funcs = 0 then chkL funcs r (i + 1) else (bodyErr f funcs, i)
def chk (l : List S33) : Int × Int := if (l.length : Int) > 32 then (6, (l.length : Int)) else chkL (l.length : Int) l 0
theorem ref_chk_l0 (l : List S33) (hl : l.length ≤ 32) (hf : ∀ f ∈ l, Fit f) : ∀ (d i : Nat), l.length - i = d → Ev (fun k => turntableref33_Check.l0 k l (i : Int)) (chkL (l.length : Int) (l.drop i) i) := by
  intro d
  induction d with
  | zero =>
    intro i hd
    refine Ev.step (fun k => by simp only [turntableref33_Check.l0]; rfl) (ev_neg (by omega) ?_)
    rw [List.drop_eq_nil_of_le (by omega)]
    exact Ev.now _
  | succ d ih =>
    intro i hd
    have hi : i < l.length := by omega
    refine Ev.step (fun k => by simp only [turntableref33_Check.l0]; rfl) (ev_pos (by omega) (ev_pos (by omega) ?_))
    rw [rd47_at _ i hi, List.drop_eq_getElem_cons hi]
    refine ev_bind' (one_any l[i] (hf _ (List.getElem_mem hi)) (l.length : Int)) ?_
    have hw : wrap64 ((i : Int) + 1) = ((i + 1 : Nat) : Int) := by rw [w64 (by omega) (by omega)]; omega
    rw [hw]
    by_cases h : bodyErr l[i] (l.length : Int) = 0
    · exact ev_pos h (ev_eq (by simp [chkL, h]) (ih (i + 1) (by omega)))
    · exact ev_neg h (ev_eq (by simp [chkL, h]) (Ev.now _))
theorem ref_chk (l : List S33) (hf : ∀ f ∈ l, Fit f) : Ev (fun k => turntableref33_Check.f k l) (chk l) := by
  unfold turntableref33_Check.f chk
  by_cases h : (l.length : Int) > 32
  · rw [if_pos h]; exact ev_pos h (Ev.now _)
  · rw [if_neg h]; exact ev_neg h (ref_chk_l0 l (by omega) hf _ 0 rfl)

/-! ### the program's own -/
theorem ends_any (op : Int) : code_ends.f op = some (decide (26 ≤ op) && decide (op ≤ 29)) := by
  unfold code_ends.f
  by_cases h1 : op = 26
  · subst h1; rfl
  · by_cases h2 : op = 27
    · subst h2; rfl
    · by_cases h3 : op = 28
      · subst h3; rfl
      · rw [if_neg h1, if_neg h2, if_neg h3]
        congr 1
        by_cases h4 : op = 29
        · subst h4; rfl
        · rw [beq_eq_false_iff_ne.mpr h4]
          by_cases h5 : 26 ≤ op
          · rw [decide_eq_false (show ¬ op ≤ 29 by omega)]; simp
          · rw [decide_eq_false h5]; rfl
theorem prog_l1 (l : List S33) (f : S33) (hf : Fit f) (fi : Int) (r : Int × Int) (hr : f.f2.all (instOf f.f1 (f.f2.length : Int) (l.length : Int)) = true → Ev (fun k => code_Check.l0 k l l (l.length : Int) (wrap64 (fi + 1))) r) (hr2 : ¬ f.f2.all (instOf f.f1 (f.f2.length : Int) (l.length : Int)) = true → r = (2, fi)) :
    ∀ (d i : Nat), f.f2.length - i = d → (f.f2.take i).all (instOf f.f1 (f.f2.length : Int) (l.length : Int)) = true → Ev (fun k => code_Check.l1 k l fi (f.f2.length : Int) l (l.length : Int) fi f.f2 (f.f2.length : Int) (i : Int) f.f0 f.f1 f.f2) r := by
  have hc := hf.c
  intro d
  induction d with
  | zero =>
    intro i hd ht
    rw [List.take_of_length_le (by omega)] at ht
    exact Ev.step (fun k => by simp only [code_Check.l1]; rfl) (ev_neg (by omega) (hr ht))
  | succ d ih =>
    intro i hd ht
    have hi : i < f.f2.length := by omega
    refine Ev.step (fun k => by simp only [code_Check.l1]; rfl) (ev_pos (by omega) (ev_pos (by omega) (ev_pos (by omega) ?_)))
    rw [rd51_at _ i hi]
    refine ev_some (show code_inst.f _ _ _ _ _ _ _ _ _ _ _ = some _ from rfl) ?_
    have hs : (f.f2.take (i + 1)).all (instOf f.f1 (f.f2.length : Int) (l.length : Int)) = instOf f.f1 (f.f2.length : Int) (l.length : Int) f.f2[i] := by
      rw [List.take_succ_eq_append_getElem hi, List.all_append, ht]; simp
    cases h : instOf f.f1 (f.f2.length : Int) (l.length : Int) f.f2[i]
    · refine ev_neg (fun e => by rw [show instB _ _ _ _ _ _ _ _ _ _ _ = false from h] at e; cases e) ?_
      rw [hr2 (fun e => by
        have := List.all_eq_true.mp e _ (List.getElem_mem hi)
        rw [h] at this; cases this)]
      exact Ev.now _
    · have hw : wrap64 ((i : Int) + 1) = ((i + 1 : Nat) : Int) := by rw [w64 (by omega) (by omega)]; omega
      rw [hw]
      exact ev_pos h (ih (i + 1) (by omega) (by rw [hs, h]))
theorem prog_l0 (l : List S33) (hl : l.length ≤ 32) (hf : ∀ f ∈ l, Fit f) : ∀ (d i : Nat), l.length - i = d → Ev (fun k => code_Check.l0 k l l (l.length : Int) (i : Int)) (chkL (l.length : Int) (l.drop i) i) := by
  intro d
  induction d with
  | zero =>
    intro i hd
    refine Ev.step (fun k => by simp only [code_Check.l0]; rfl) (ev_neg (by omega) ?_)
    rw [List.drop_eq_nil_of_le (by omega)]
    exact Ev.now _
  | succ d ih =>
    intro i hd
    have hi : i < l.length := by omega
    have hw : wrap64 ((i : Int) + 1) = ((i + 1 : Nat) : Int) := by rw [w64 (by omega) (by omega)]; omega
    have hfi := hf _ (List.getElem_mem hi)
    refine Ev.step (fun k => by simp only [code_Check.l0]; rfl) (ev_pos (by omega) (ev_pos (by omega) (ev_pos (by omega) ?_)))
    rw [rd47_at _ i hi, List.drop_eq_getElem_cons hi]
    have hnext := ih (i + 1) (by omega)
    rw [← hw] at hnext
    generalize hg : l[i] = f at *
    have hc := hfi.c
    have hres : chkL (l.length : Int) (f :: l.drop (i + 1)) i = if bodyErr f (l.length : Int) = 0 then chkL (l.length : Int) (l.drop (i + 1)) (i + 1) else (bodyErr f (l.length : Int), (i : Int)) := rfl
    rw [hres]
    have hj2 : ∀ x : Bool, ¬ (f.f1 < 1 ∨ f.f1 > 4096 ∨ (f.f0.length : Int) > 8 ∨ (f.f2.length : Int) > 65536) → (x = true ↔ (f.f2.length = 0 ∨ lastOp f.f2 < 26 ∨ lastOp f.f2 > 29)) → Ev (fun k => code_Check.j2 k l (i : Int) (f.f2.length : Int) l (l.length : Int) (i : Int) x f.f0 f.f1 f.f2) (if bodyErr f (l.length : Int) = 0 then chkL (l.length : Int) (l.drop (i + 1)) (i + 1) else (bodyErr f (l.length : Int), (i : Int))) := by
      intro x h6 hx
      refine Ev.step (fun k => by simp only [code_Check.j2]; rfl) ?_
      cases x
      · have h15 : ¬ (f.f2.length = 0 ∨ lastOp f.f2 < 26 ∨ lastOp f.f2 > 29) := fun h => by have := hx.2 h; cases this
        refine ev_neg (by simp) ?_
        by_cases h8 : f.f0.any (offB f.f1) = true
        · have e : bodyErr f (l.length : Int) = 8 := by unfold bodyErr; rw [if_neg h6, if_neg h15, if_pos h8]
          rw [e]
          exact ev_pos h8 (Ev.now _)
        · refine ev_neg h8 ?_
          have e : bodyErr f (l.length : Int) = if f.f2.all (instOf f.f1 (f.f2.length : Int) (l.length : Int)) = true then 0 else 2 := by unfold bodyErr; rw [if_neg h6, if_neg h15, if_neg h8]
          rw [e]
          refine prog_l1 l f hfi (i : Int) _ (fun h => ?_) (fun h => ?_) _ 0 rfl rfl
          · rw [if_pos h]; exact hnext
          · rw [if_neg h]; rfl
      · have e : bodyErr f (l.length : Int) = 15 := by unfold bodyErr; rw [if_neg h6, if_pos (hx.1 rfl)]
        rw [e]
        exact ev_pos rfl (Ev.now _)
    have hj1 : ∀ x : Bool, (x = true ↔ (f.f1 < 1 ∨ f.f1 > 4096 ∨ (f.f0.length : Int) > 8 ∨ (f.f2.length : Int) > 65536)) → Ev (fun k => code_Check.j1 k l (i : Int) (f.f2.length : Int) l (l.length : Int) (i : Int) x f.f0 f.f1 f.f2) (if bodyErr f (l.length : Int) = 0 then chkL (l.length : Int) (l.drop (i + 1)) (i + 1) else (bodyErr f (l.length : Int), (i : Int))) := by
      intro x hx
      refine Ev.step (fun k => by simp only [code_Check.j1]; rfl) ?_
      cases x
      · have h6 : ¬ (f.f1 < 1 ∨ f.f1 > 4096 ∨ (f.f0.length : Int) > 8 ∨ (f.f2.length : Int) > 65536) := fun h => by have := hx.2 h; cases this
        refine ev_neg (by simp) ?_
        by_cases h0 : (f.f2.length : Int) = 0
        · exact ev_pos h0 (hj2 true h6 ⟨fun _ => .inl (by omega), fun _ => rfl⟩)
        · have hw2 : wrap64 ((f.f2.length : Int) - 1) = (f.f2.length : Int) - 1 := w64 (by omega) (by omega)
          refine ev_neg h0 (ev_pos (by omega) (ev_pos (by omega) (ev_some (ends_any _) (hj2 _ h6 ?_))))
          show (!(decide (26 ≤ lastOp f.f2) && decide (lastOp f.f2 ≤ 29))) = true ↔ _
          generalize lastOp f.f2 = o
          have h00 : ¬ f.f2.length = 0 := by omega
          simp only [h00, false_or]
          simp
          try omega
      · have e : bodyErr f (l.length : Int) = 6 := by unfold bodyErr; rw [if_pos (hx.1 rfl)]
        rw [e]
        exact ev_pos rfl (Ev.now _)
    by_cases h1 : f.f1 < 1
    · exact ev_pos h1 (hj1 true ⟨fun _ => .inl h1, fun _ => rfl⟩)
    · by_cases h2 : f.f1 > 4096
      · exact ev_neg h1 (ev_pos h2 (hj1 true ⟨fun _ => .inr (.inl h2), fun _ => rfl⟩))
      · by_cases h3 : (f.f0.length : Int) > 8
        · exact ev_neg h1 (ev_neg h2 (ev_pos h3 (hj1 true ⟨fun _ => .inr (.inr (.inl h3)), fun _ => rfl⟩)))
        · refine ev_neg h1 (ev_neg h2 (ev_neg h3 (hj1 _ ⟨fun h => .inr (.inr (.inr (of_decide_eq_true h))), fun h => decide_eq_true ?_⟩)))
          rcases h with h | h | h | h
          · exact absurd h h1
          · exact absurd h h2
          · exact absurd h h3
          · exact h
theorem prog_chk (l : List S33) (hf : ∀ f ∈ l, Fit f) : Ev (fun k => code_Check.f k l) (chk l) := by
  unfold code_Check.f chk
  by_cases h : (l.length : Int) > 32
  · rw [if_pos h]; exact ev_pos h (Ev.now _)
  · rw [if_neg h]; exact ev_neg h (prog_l0 l (by omega) hf _ 0 rfl)
/-- What x has of a piece, laid into y. -/
def setP (x y : S37) (p : Int) : S37 :=
  if p = 0 then { y with f1 := x.f1 } else if p = 1 then { y with f2 := x.f2 } else if p = 2 then { y with f3 := x.f3 }
  else if p = 3 then { y with f4 := x.f4 } else if p = 4 then { y with f4 := x.f4 } else if p = 5 then { y with f5 := x.f5 }
  else if p = 6 then { y with f6 := ⟨x.f6.f0, y.f6.f1⟩ } else if p = 7 then { y with f6 := x.f6 } else y
def blankP (op : Int) : S37 := ⟨op, -1, -1, -1, 0, [], ⟨0, 0⟩⟩
theorem told_set (x : S37) : ∀ (ps : List Int) (y : PLi.Told) (z : S37), z.f1 = y.d → z.f2 = y.a → z.f3 = y.b → z.f4 = y.n → (z.f5 = if y.l = true then x.f5 else []) → z.f6.f0 = y.t0 → z.f6.f1 = y.t1 →
    (ps.foldl (setP x) z).f0 = z.f0 ∧ (ps.foldl (setP x) z).f1 = (ps.foldl (toldP x.f1 x.f2 x.f3 x.f4 x.f6.f0 x.f6.f1) y).d ∧ (ps.foldl (setP x) z).f2 = (ps.foldl (toldP x.f1 x.f2 x.f3 x.f4 x.f6.f0 x.f6.f1) y).a ∧
    (ps.foldl (setP x) z).f3 = (ps.foldl (toldP x.f1 x.f2 x.f3 x.f4 x.f6.f0 x.f6.f1) y).b ∧ (ps.foldl (setP x) z).f4 = (ps.foldl (toldP x.f1 x.f2 x.f3 x.f4 x.f6.f0 x.f6.f1) y).n ∧
    ((ps.foldl (setP x) z).f5 = if (ps.foldl (toldP x.f1 x.f2 x.f3 x.f4 x.f6.f0 x.f6.f1) y).l = true then x.f5 else []) ∧
    (ps.foldl (setP x) z).f6.f0 = (ps.foldl (toldP x.f1 x.f2 x.f3 x.f4 x.f6.f0 x.f6.f1) y).t0 ∧ (ps.foldl (setP x) z).f6.f1 = (ps.foldl (toldP x.f1 x.f2 x.f3 x.f4 x.f6.f0 x.f6.f1) y).t1 := by
  intro ps
  induction ps with
  | nil => intro y z h1 h2 h3 h4 h5 h6 h7; exact ⟨rfl, h1, h2, h3, h4, h5, h6, h7⟩
  | cons p ps ih =>
    intro y z h1 h2 h3 h4 h5 h6 h7
    have e0 : (setP x z p).f0 = z.f0 := by unfold setP; repeat' (first | rfl | split)
    rw [List.foldl_cons, List.foldl_cons, ← e0]
    apply ih
    all_goals
      unfold setP toldP
      by_cases k0 : p = 0
      · simp [k0, *]
      by_cases k1 : p = 1
      · simp [k1, *]
      by_cases k2 : p = 2
      · simp [k2, *]
      by_cases k3 : p = 3
      · simp [k3, *]
      by_cases k4 : p = 4
      · simp [k4, *]
      by_cases k5 : p = 5
      · simp [k5, *]
      by_cases k6 : p = 6
      · simp [k6, *]
      by_cases k7 : p = 7
      · simp [k7, *]
      simp [k0, k1, k2, k3, k4, k5, k6, k7, *]
/-- What a piece asks. -/
def okW (x : S37) (p : Int) : Prop :=
  if p = 0 then -1 ≤ x.f1 ∧ x.f1 ≤ 4095 else if p = 1 then (x.f0 = 21 → 0 ≤ x.f2 ∧ x.f2 ≤ 31) ∧ (x.f0 ≠ 21 → -1 ≤ x.f2 ∧ x.f2 ≤ 4095) else if p = 2 then -1 ≤ x.f3 ∧ x.f3 ≤ 4095
  else if p = 3 then -9223372036854775808 ≤ x.f4 ∧ x.f4 ≤ 9223372036854775807 else if p = 4 then -9223372036854775808 ≤ x.f4 ∧ x.f4 ≤ 9223372036854775807 else if p = 5 then x.f5.length ≤ 8 ∧ ∀ v ∈ x.f5, 0 ≤ v ∧ v ≤ 4095
  else if p = 6 then 0 ≤ x.f6.f0 ∧ x.f6.f0 ≤ 65535 else if p = 7 then (0 ≤ x.f6.f0 ∧ x.f6.f0 ≤ 65535) ∧ 0 ≤ x.f6.f1 ∧ x.f6.f1 ≤ 65535 else True
structure GoodI (x : S37) : Prop where
  ne : piecesL x.f0 ≠ []
  r : ∀ p ∈ piecesL x.f0, okW x p
  e : (piecesL x.f0).foldl (setP x) (blankP x.f0) = x
structure GoodB (f : S33) : Prop where
  p : f.f0.length ≤ 8 ∧ ∀ v ∈ f.f0, 0 ≤ v ∧ v ≤ 4095
  s : 1 ≤ f.f1 ∧ f.f1 ≤ 4096
  n : f.f2.length ≤ 65536
  i : ∀ x ∈ f.f2, GoodI x
theorem good_inst {x : S37} {size n funcs : Int} (hsz : size ≤ 4096) (hn : n ≤ 65536) (hfu : funcs ≤ 32) (hw : -9223372036854775808 ≤ x.f4 ∧ x.f4 ≤ 9223372036854775807) (h : instOf size n funcs x = true) : GoodI x := by
  unfold instOf instB at h
  simp only [Bool.and_eq_true, beq_iff_eq] at h
  obtain ⟨⟨hp, hall⟩, ⟨⟨⟨⟨⟨⟨c1, c2⟩, c3⟩, c4⟩, c5⟩, c6⟩, c7⟩⟩ := h
  have hne : piecesL x.f0 ≠ [] := by intro e; rw [e] at hp; simp at hp
  refine ⟨hne, fun p hp2 => ?_, ?_⟩
  · have hk := List.all_eq_true.mp hall p hp2
    unfold okP at hk
    unfold okW
    by_cases h0 : p = 0
    · subst h0; simp only [if_true] at hk ⊢
      unfold withinB at hk
      simp only [Bool.or_eq_true, Bool.and_eq_true, decide_eq_true_eq, beq_iff_eq] at hk
      omega
    rw [if_neg h0] at hk ⊢
    by_cases h1 : p = 1
    · subst h1; simp only [if_true] at hk ⊢
      by_cases ho : x.f0 = 21
      · rw [if_pos ho] at hk
        simp only [Bool.and_eq_true, decide_eq_true_eq] at hk
        exact ⟨fun _ => by omega, fun h => absurd ho h⟩
      · rw [if_neg ho] at hk
        unfold withinB at hk
        simp only [Bool.or_eq_true, Bool.and_eq_true, decide_eq_true_eq, beq_iff_eq] at hk
        exact ⟨fun h => absurd h ho, fun _ => by omega⟩
    rw [if_neg h1] at hk ⊢
    by_cases h2 : p = 2
    · subst h2; simp only [if_true] at hk ⊢
      unfold withinB at hk
      simp only [Bool.or_eq_true, Bool.and_eq_true, decide_eq_true_eq, beq_iff_eq] at hk
      omega
    rw [if_neg h2] at hk ⊢
    by_cases h3 : p = 3
    · subst h3; simp only [if_true] at hk ⊢
      simp only [Bool.and_eq_true, decide_eq_true_eq] at hk
      omega
    rw [if_neg h3] at hk ⊢
    by_cases h4 : p = 4
    · subst h4; simp only [if_true]; exact hw
    rw [if_neg h4] at hk ⊢
    by_cases h5 : p = 5
    · subst h5; simp only [if_true] at hk ⊢
      simp only [Bool.and_eq_true, decide_eq_true_eq, Bool.not_eq_true'] at hk
      refine ⟨hk.1, fun v hv => ?_⟩
      have := List.any_eq_false.mp hk.2 v hv
      unfold offB at this
      simp only [Bool.or_eq_true, decide_eq_true_eq] at this
      omega
    rw [if_neg h5] at hk ⊢
    by_cases h6 : p = 6
    · subst h6; simp only [if_true] at hk ⊢
      simp only [Bool.and_eq_true, decide_eq_true_eq] at hk
      omega
    rw [if_neg h6] at hk ⊢
    by_cases h7 : p = 7
    · subst h7; simp only [if_true] at hk ⊢
      simp only [Bool.and_eq_true, decide_eq_true_eq] at hk
      omega
    rw [if_neg h7]; trivial
  · obtain ⟨g0, g1, g2, g3, g4, g5, g6, g7⟩ := told_set x (piecesL x.f0) told0 (blankP x.f0) rfl rfl rfl rfl rfl rfl rfl
    rw [← c1] at g1
    rw [← c2] at g2
    rw [← c3] at g3
    rw [← c4] at g4
    rw [← c5] at g6
    rw [← c6] at g7
    have g8 : ((piecesL x.f0).foldl (setP x) (blankP x.f0)).f5 = x.f5 := by
      rw [g5]
      by_cases hl : ((piecesL x.f0).foldl (toldP x.f1 x.f2 x.f3 x.f4 x.f6.f0 x.f6.f1) told0).l = true
      · rw [if_pos hl]
      · rw [if_neg hl] at c7 ⊢
        exact (List.eq_nil_of_length_eq_zero (by simpa using c7)).symm
    generalize (piecesL x.f0).foldl (setP x) (blankP x.f0) = z at *
    obtain ⟨z0, z1, z2, z3, z4, z5, ⟨z6, z7⟩⟩ := z
    obtain ⟨x0, x1, x2, x3, x4, x5, ⟨x6, x7⟩⟩ := x
    simp only at g0 g1 g2 g3 g4 g6 g7 g8
    subst g1; subst g2; subst g3; subst g4; subst g6; subst g7; subst g8
    rw [show z0 = x0 from g0]
theorem good_body {f : S33} {funcs : Int} (hfu : funcs ≤ 32) (hw : ∀ x ∈ f.f2, -9223372036854775808 ≤ x.f4 ∧ x.f4 ≤ 9223372036854775807) (h : bodyErr f funcs = 0) : GoodB f := by
  unfold bodyErr at h
  by_cases h1 : f.f1 < 1 ∨ f.f1 > 4096 ∨ (f.f0.length : Int) > 8 ∨ (f.f2.length : Int) > 65536
  · rw [if_pos h1] at h; cases h
  rw [if_neg h1] at h
  by_cases h2 : f.f2.length = 0 ∨ lastOp f.f2 < 26 ∨ lastOp f.f2 > 29
  · rw [if_pos h2] at h; cases h
  rw [if_neg h2] at h
  by_cases h3 : f.f0.any (offB f.f1) = true
  · rw [if_pos h3] at h; cases h
  rw [if_neg h3] at h
  by_cases h4 : f.f2.all (instOf f.f1 (f.f2.length : Int) funcs) = true
  · refine ⟨⟨by omega, fun v hv => ?_⟩, by omega, by omega, fun x hx => good_inst (by omega) (by omega) hfu (hw x hx) (List.all_eq_true.mp h4 x hx)⟩
    have := List.any_eq_false.mp (by simpa using h3) v hv
    unfold offB at this
    simp only [Bool.or_eq_true, decide_eq_true_eq] at this
    omega
  · rw [if_neg h4] at h; cases h
theorem good_from (funcs : Int) (hfu : funcs ≤ 32) : ∀ (l : List S33) (i : Nat), (∀ f ∈ l, ∀ x ∈ f.f2, -9223372036854775808 ≤ x.f4 ∧ x.f4 ≤ 9223372036854775807) → (chkL funcs l i).1 = 0 → ∀ f ∈ l, GoodB f := by
  intro l
  induction l with
  | nil => intro i _ _ f hf; cases hf
  | cons f l ih =>
    intro i hw h g hg
    simp only [chkL] at h
    by_cases he : bodyErr f funcs = 0
    · rw [if_pos he] at h
      rcases List.mem_cons.1 hg with rfl | hg
      · exact good_body hfu (hw g (by simp)) he
      · exact ih (i + 1) (fun f hf => hw f (by simp [hf])) h g hg
    · rw [if_neg he] at h
      exact absurd h he
theorem good_all {l : List S33} (hw : ∀ f ∈ l, ∀ x ∈ f.f2, -9223372036854775808 ≤ x.f4 ∧ x.f4 ≤ 9223372036854775807) (h : (chk l).1 = 0) : l.length ≤ 32 ∧ ∀ f ∈ l, GoodB f := by
  unfold chk at h
  by_cases hl : (l.length : Int) > 32
  · rw [if_pos hl] at h; cases h
  · rw [if_neg hl] at h
    exact ⟨by omega, good_from _ (by omega) l 0 hw h⟩
end Go.Proofs.Ytkgjbdbhpohkiaa.CodeLaw
end
section
/- What the words of a text are: each stands where it says; and what words put together are split as. Plain laws; no program here. -/
namespace Go.Proofs.Ytkgjbdbhpohkiaa.PLi
open Go.RowKit Go.Proofs.YtkgjbdbhpohkiaaW.PrintWords Go.Proofs.YtkgjbdbhpohkiaaW.PrintLast Go.Proofs.YtkgjbdbhpohkiaaW.PrintMore Go.Proofs.Ytkgjbdbhpohkiaa.Str
set_option linter.unusedVariables false
set_option linter.unusedSimpArgs false

/-- Words that stand in s, one behind the other, from a on, all of them ending at b at the latest. -/
def Stand (s : ByteArray) : Int → List Tok → Int → Prop
  | a, [], b => a ≤ b
  | a, t :: l, b => a ≤ t.f1 ∧ 0 < t.f0.size ∧ t.f1 + t.f0.size ≤ s.size ∧ s.extract t.f1.toNat (t.f1 + t.f0.size).toNat = t.f0 ∧ Stand s (t.f1 + t.f0.size) l b

theorem stand_snoc {s : ByteArray} {t : Tok} {b c : Int} : ∀ {l : List Tok} {a : Int}, Stand s a l b → b ≤ t.f1 → 0 < t.f0.size → t.f1 + t.f0.size ≤ s.size → s.extract t.f1.toNat (t.f1 + t.f0.size).toNat = t.f0 → t.f1 + t.f0.size ≤ c → Stand s a (l ++ [t]) c := by
  intro l
  induction l with
  | nil => intro a h h1 h2 h3 h4 h5; exact ⟨Int.le_trans h h1, h2, h3, h4, h5⟩
  | cons x l ih => intro a h h1 h2 h3 h4 h5; exact ⟨h.1, h.2.1, h.2.2.1, h.2.2.2.1, ih h.2.2.2.2 h1 h2 h3 h4 h5⟩

theorem stand_le {s : ByteArray} {b c : Int} (hbc : b ≤ c) : ∀ {l : List Tok} {a : Int}, Stand s a l b → Stand s a l c := by
  intro l
  induction l with
  | nil => intro a h; exact Int.le_trans h hbc
  | cons x l ih => intro a h; exact ⟨h.1, h.2.1, h.2.2.1, h.2.2.2.1, ih h.2.2.2.2⟩

theorem ext_size (s : ByteArray) (a b : Nat) (h : a ≤ b) (hb : b ≤ s.size) : (s.extract a b).size = b - a := by
  rw [ByteArray.size_extract]; omega

/-- Behind the end of an open word. -/
theorem stand_close {s : ByteArray} {fr : Int} {i : Nat} {out : List Tok} {e : Int} (h : Stand s 0 out e) (hi : i ≤ s.size) (hf : fr = -1 ∧ e ≤ i ∨ e ≤ fr ∧ 0 ≤ fr ∧ fr < i) : Stand s 0 (closeW s fr i out) i := by
  unfold closeW
  rcases hf with ⟨h1, h2⟩ | ⟨h1, h2, h3⟩
  · rw [if_pos (by omega)]; exact stand_le h2 h
  · rw [if_neg (by omega)]
    have hs : (s.extract fr.toNat i).size = i - fr.toNat := ext_size s _ _ (by omega) hi
    have hs2 : ((s.extract fr.toNat i).size : Int) = i - fr := by rw [hs]; omega
    refine stand_snoc h h1 (by show 0 < (s.extract fr.toNat i).size; omega) (by show fr + ((s.extract fr.toNat i).size : Int) ≤ _; omega) ?_ (by show fr + ((s.extract fr.toNat i).size : Int) ≤ _; omega)
    show s.extract fr.toNat (fr + ((s.extract fr.toNat i).size : Int)).toNat = s.extract fr.toNat i
    congr 1
    omega

theorem ext_one (s : ByteArray) (i : Nat) (c : UInt8) (l : List UInt8) (h : s.data.toList.drop i = c :: l) : s.extract i (i + 1) = mk [c] := by
  have e : s = mk s.data.toList := mk_data s
  have h2 : (s.data.toList.drop i).take 1 = [c] := by rw [h]; rfl
  rw [e, mk_extract]
  congr 1
  have : (List.take (i + 1) s.data.toList).drop i = List.take 1 (s.data.toList.drop i) := by
    rw [List.drop_take]; congr 1; omega
  rw [this, h2]

theorem split_stand (s : ByteArray) : ∀ (l : List UInt8) (i : Nat) (fr : Int) (noted : Bool) (out : List Tok) (e : Int) (r1 : List Tok) (r2 r3 : Int), s.data.toList.drop i = l → i ≤ s.size → Stand s 0 out e → (fr = -1 ∧ e ≤ i ∨ e ≤ fr ∧ 0 ≤ fr ∧ fr < i) →
    splitGo s l i fr noted out = (r1, r2, r3) → (r2 = 0 ∧ Stand s 0 r1 s.size) ∨ (r2 = 1 ∧ r1 = [] ∧ 0 ≤ r3 ∧ r3 < s.size) := by
  intro l
  induction l with
  | nil =>
    intro i fr noted out e r1 r2 r3 hd hi hs hf h
    rw [splitGo] at h
    obtain ⟨rfl, h2⟩ := Prod.mk.inj h
    obtain ⟨rfl, rfl⟩ := Prod.mk.inj h2
    exact .inl ⟨rfl, stand_le (by omega) (stand_close hs hi hf)⟩
  | cons c l ih =>
    intro i fr noted out e r1 r2 r3 hd hi hs hf h
    have hlt : i < s.size := by
      have h9 := congrArg List.length hd
      rw [List.length_drop, List.length_cons] at h9
      have : s.size = s.data.toList.length := rfl
      omega
    have hd2 : s.data.toList.drop (i + 1) = l := by
      rw [← List.drop_drop, hd]; rfl
    have hc := stand_close hs hi hf
    rw [splitGo] at h
    by_cases hn : noted = true
    · rw [if_pos hn] at h
      exact ih (i + 1) fr _ out e r1 r2 r3 hd2 hlt hs (by omega) h
    · rw [if_neg hn] at h
      by_cases h0 : kindR c.toNat = 0
      · rw [if_pos h0] at h
        exact ih (i + 1) (-1) _ _ i r1 r2 r3 hd2 hlt hc (.inl ⟨rfl, by omega⟩) h
      · rw [if_neg h0] at h
        by_cases h1 : kindR c.toNat = 1
        · rw [if_pos h1] at h
          refine ih (i + 1) (-1) _ _ ((i + 1 : Nat) : Int) r1 r2 r3 hd2 hlt (stand_snoc hc (Int.le_refl _) (by show 0 < (mk [c]).size; rw [mk_size]; exact Nat.one_pos) ?_ ?_ ?_) (.inl ⟨rfl, by omega⟩) h
          · show (i : Int) + ((mk [c]).size : Int) ≤ _; rw [mk_size, List.length_singleton]; omega
          · show s.extract i ((i : Int) + ((mk [c]).size : Int)).toNat = mk [c]
            rw [mk_size, List.length_singleton]
            exact ext_one s i c l hd
          · show (i : Int) + ((mk [c]).size : Int) ≤ _; rw [mk_size, List.length_singleton]; omega
        · rw [if_neg h1] at h
          by_cases h2 : kindR c.toNat = 2
          · rw [if_pos h2] at h
            by_cases hfr : fr < 0
            · rw [if_pos hfr] at h
              exact ih (i + 1) i _ _ e r1 r2 r3 hd2 hlt hs (.inr (by omega)) h
            · rw [if_neg hfr] at h
              exact ih (i + 1) fr _ _ e r1 r2 r3 hd2 hlt hs (by omega) h
          · rw [if_neg h2] at h
            by_cases h3 : kindR c.toNat = 3
            · rw [if_pos h3] at h
              exact ih (i + 1) (-1) _ _ i r1 r2 r3 hd2 hlt hc (.inl ⟨rfl, by omega⟩) h
            · rw [if_neg h3] at h
              obtain ⟨rfl, h4⟩ := Prod.mk.inj h
              obtain ⟨rfl, rfl⟩ := Prod.mk.inj h4
              exact .inr ⟨rfl, rfl, by omega, by omega⟩

theorem stand_in {s : ByteArray} : ∀ {l : List Tok} {a b : Int}, Stand s a l b → ∀ t ∈ l, a ≤ t.f1 ∧ t.f0.size ≤ s.size := by
  intro l
  induction l with
  | nil => intro a b _ t ht; cases ht
  | cons x l ih =>
    intro a b h t ht
    rcases List.mem_cons.mp ht with rfl | ht
    · exact ⟨h.1, by
        have := congrArg ByteArray.size h.2.2.2.1
        rw [ByteArray.size_extract] at this
        omega⟩
    · have := ih h.2.2.2.2 t ht
      exact ⟨by have := h.1; omega, this.2⟩
theorem stand_len {s : ByteArray} : ∀ {l : List Tok} {a b : Int}, Stand s a l b → (l.length : Int) ≤ b - a := by
  intro l
  induction l with
  | nil => intro a b h; have : a ≤ b := h; simp; omega
  | cons x l ih =>
    intro a b h
    have := ih h.2.2.2.2
    have h1 := h.1
    have h2 := h.2.1
    rw [List.length_cons]
    omega
def Texts (l : List Tok) : List (List UInt8) := l.map fun t => t.f0.data.toList
def closeL (cur : List UInt8) : List (List UInt8) := if cur = [] then [] else [cur]
/-- The words of a text, as bytes; cur: the open one. -/
def wordsW : List UInt8 → List UInt8 → List (List UInt8)
  | [], cur => closeL cur
  | c :: l, cur => if kindR c.toNat = 0 then closeL cur ++ wordsW l [] else if kindR c.toNat = 1 then closeL cur ++ [c] :: wordsW l [] else wordsW l (cur ++ [c])
/-- Blanks, signs, and parts of words alone. -/
def plainC (c : UInt8) : Bool := decide (kindR c.toNat = 0) || decide (kindR c.toNat = 1) || decide (kindR c.toNat = 2)
theorem wordsW_word (w r cur : List UInt8) (h : ∀ c ∈ w, kindR (c : UInt8).toNat = 2) : wordsW (w ++ r) cur = wordsW r (cur ++ w) := by
  induction w generalizing cur with
  | nil => simp
  | cons c w ih =>
    have hc := h c (by simp)
    rw [List.cons_append, wordsW, if_neg (by omega), if_neg (by omega), ih _ (fun x hx => h x (by simp [hx])), List.append_assoc]
    rfl
theorem wordsW_end (w r : List UInt8) (c : UInt8) (h : ∀ c ∈ w, kindR (c : UInt8).toNat = 2) (hne : w ≠ []) (hc : kindR c.toNat = 0) : wordsW (w ++ c :: r) [] = w :: wordsW r [] := by
  rw [wordsW_word w _ _ h, wordsW, if_pos hc, List.nil_append]
  unfold closeL
  rw [if_neg hne]
  rfl
theorem wordsW_sign (w r : List UInt8) (c : UInt8) (h : ∀ c ∈ w, kindR (c : UInt8).toNat = 2) (hne : w ≠ []) (hc : kindR c.toNat = 1) : wordsW (w ++ c :: r) [] = w :: [c] :: wordsW r [] := by
  rw [wordsW_word w _ _ h, wordsW, if_neg (by omega), if_pos hc, List.nil_append]
  unfold closeL
  rw [if_neg hne]
  rfl
theorem wordsW_blank (r : List UInt8) (c : UInt8) (hc : kindR c.toNat = 0) : wordsW (c :: r) [] = wordsW r [] := by
  rw [wordsW, if_pos hc]
  rfl
theorem wordsW_one (r : List UInt8) (c : UInt8) (hc : kindR c.toNat = 1) : wordsW (c :: r) [] = [c] :: wordsW r [] := by
  rw [wordsW, if_neg (by omega), if_pos hc]
  rfl
theorem texts_app (a b : List Tok) : Texts (a ++ b) = Texts a ++ Texts b := List.map_append ..
theorem close_words (s : ByteArray) (fr : Int) (i : Nat) (out : List Tok) (cur : List UInt8) (hi : i ≤ s.size) (hf : fr = -1 ∧ cur = [] ∨ 0 ≤ fr ∧ fr < i ∧ (s.data.toList.take i).drop fr.toNat = cur) : ∃ o, closeW s fr i out = out ++ o ∧ Texts o = closeL cur := by
  unfold closeW closeL
  rcases hf with ⟨h1, h2⟩ | ⟨h1, h2, h3⟩
  · rw [if_pos (by omega), if_pos h2]
    exact ⟨[], by simp, rfl⟩
  · have hne : cur ≠ [] := by
      intro e
      rw [e] at h3
      have := congrArg List.length h3
      rw [List.length_drop, List.length_take, ← size_data] at this
      simp at this
      omega
    rw [if_neg (by omega), if_neg hne]
    refine ⟨_, rfl, ?_⟩
    show [(s.extract fr.toNat i).data.toList] = [cur]
    have : s.extract fr.toNat i = mk ((s.data.toList.take i).drop fr.toNat) := by
      have := mk_extract s.data.toList fr.toNat i
      rw [← mk_data s] at this
      exact this
    rw [this, h3]
theorem split_of (s : ByteArray) : ∀ (l : List UInt8) (i : Nat) (fr : Int) (out : List Tok) (cur : List UInt8), l.all plainC = true → s.data.toList.drop i = l → i ≤ s.size → (fr = -1 ∧ cur = [] ∨ 0 ≤ fr ∧ fr < i ∧ (s.data.toList.take i).drop fr.toNat = cur) →
    ∃ o, splitGo s l i fr false out = (out ++ o, 0, 0) ∧ Texts o = wordsW l cur := by
  intro l
  induction l with
  | nil =>
    intro i fr out cur _ hd hi hf
    obtain ⟨o, h1, h2⟩ := close_words s fr i out cur hi hf
    exact ⟨o, by rw [splitGo, h1], by rw [h2]; rfl⟩
  | cons c l ih =>
    intro i fr out cur hp hd hi hf
    rw [List.all_cons, Bool.and_eq_true] at hp
    have hlt : i < s.data.toList.length := by
      have h9 := congrArg List.length hd
      rw [List.length_drop, List.length_cons] at h9
      omega
    have hlt' : i < s.size := by rw [size_data]; exact hlt
    have hd2 : s.data.toList.drop (i + 1) = l := by rw [← List.drop_drop, hd]; rfl
    have hci : s.data.toList[i] = c := by
      rw [List.drop_eq_getElem_cons hlt] at hd
      exact (List.cons.inj hd).1
    obtain ⟨o, h1, h2⟩ := close_words s fr i out cur hi hf
    have hk := hp.1
    unfold plainC at hk
    simp only [Bool.or_eq_true, decide_eq_true_eq] at hk
    rw [splitGo, if_neg (by simp), wordsW]
    by_cases h0 : kindR c.toNat = 0
    · rw [if_pos h0, if_pos h0, h1]
      obtain ⟨o2, g1, g2⟩ := ih (i + 1) (-1) (out ++ o) [] hp.2 hd2 hlt' (.inl ⟨rfl, rfl⟩)
      exact ⟨o ++ o2, by rw [g1, List.append_assoc], by rw [texts_app, h2, g2]⟩
    · rw [if_neg h0, if_neg h0]
      by_cases h3 : kindR c.toNat = 1
      · rw [if_pos h3, if_pos h3, h1]
        obtain ⟨o2, g1, g2⟩ := ih (i + 1) (-1) (out ++ o ++ [⟨mk [c], i⟩]) [] hp.2 hd2 hlt' (.inl ⟨rfl, rfl⟩)
        exact ⟨o ++ ⟨mk [c], i⟩ :: o2, by rw [g1]; simp, by rw [texts_app, h2]; show _ ++ ([c] :: Texts o2) = _; rw [g2]⟩
      · have h4 : kindR c.toNat = 2 := by omega
        rw [if_neg h3, if_neg h3, if_pos h4]
        refine ih (i + 1) _ out (cur ++ [c]) hp.2 hd2 hlt' ?_
        have htake : s.data.toList.take (i + 1) = s.data.toList.take i ++ [c] := by rw [List.take_succ_eq_append_getElem hlt, hci]
        rcases hf with ⟨e1, e2⟩ | ⟨e1, e2, e3⟩
        · rw [if_pos (by omega)]
          refine .inr ⟨by omega, by omega, ?_⟩
          rw [Int.toNat_natCast, htake, List.drop_append, List.drop_eq_nil_of_le (by rw [List.length_take]; omega), e2, List.length_take]
          have : i - min i s.data.toList.length = 0 := by omega
          rw [this]
          rfl
        · rw [if_neg (by omega)]
          refine .inr ⟨e1, by omega, ?_⟩
          rw [htake, List.drop_append, e3, List.length_take]
          have : fr.toNat - min i s.data.toList.length = 0 := by omega
          rw [this]
          rfl
/-- A text of blanks, signs and words is split as these words. -/
theorem splitL_words (b : List UInt8) (hl : b.length ≤ 65536) (hp : b.all plainC = true) : ∃ o, splitL (mk b) = (o, 0, 0) ∧ Texts o = wordsW b [] ∧ (∀ t ∈ o, 0 ≤ t.f1) := by
  unfold splitL
  rw [if_neg (by rw [mk_size]; omega)]
  obtain ⟨o, h1, h2⟩ := split_of (mk b) b 0 (-1) [] [] hp rfl (Nat.zero_le _) (.inl ⟨rfl, rfl⟩)
  refine ⟨o, by rw [show (mk b).data.toList = b from rfl, h1]; rfl, h2, ?_⟩
  rcases split_stand (mk b) b 0 (-1) false [] 0 o 0 0 rfl (Nat.zero_le _) (Int.le_refl _) (.inl ⟨rfl, by omega⟩) h1 with ⟨-, hs⟩ | ⟨h, -⟩
  · exact fun t ht => (stand_in hs t ht).1
  · cases h
end Go.Proofs.Ytkgjbdbhpohkiaa.PLi
end
