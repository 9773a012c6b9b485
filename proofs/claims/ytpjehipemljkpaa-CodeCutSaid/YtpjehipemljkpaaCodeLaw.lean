/- What the program tells of bodies is what the reference tells: the pieces of an operation, one instruction, one body, all of them. -/
import Derived.Test.YtpjehipemljkpaaPCox14
import Derived.Test.YtpjehipemljkpaaCodeOne
import Derived.Test.YtpjehipemljkpaaStr
namespace Go.Proofs.Ytpjehipemljkpaa.CodeLaw
open Go.RowKit Go.Proofs.Ytpjehipemljkpaa.PCo Go.Proofs.YtpjehipemljkpaaW.PrintWords Go.Proofs.YtpjehipemljkpaaW.PrintLast Go.Proofs.YtpjehipemljkpaaW.PrintMore Go.Proofs.Ytpjehipemljkpaa.Str
set_option linter.unusedSimpArgs false
set_option linter.unusedVariables false

/-! ### how large bodies are -/
theorem weight_l1 (l : List S47) (i : Int) (h0 : 0 ≤ i) (h1 : i < (l.length : Int)) (hb : ((rd_T47 l i).f2).length ≤ 9223372036854775806) (next : ∀ acc, ∃ r, Ev (fun k => turntableref33_Weight.l0 k l 400 acc (wrap64 (i + 1))) r) :
    ∀ (d : Nat) (j acc : Int), 0 ≤ j → ((rd_T47 l i).f2).length - j.toNat = d → ∃ r, Ev (fun k => turntableref33_Weight.l1 k l 400 acc i j) r := by
  intro d
  induction d with
  | zero =>
    intro j acc hj hd
    obtain ⟨r, hr⟩ := next acc
    exact ⟨r, Ev.step (fun k => by simp only [turntableref33_Weight.l1]; rfl) (ev_pos h0 (ev_pos h1 (ev_neg (by omega) hr)))⟩
  | succ d ih =>
    intro j acc hj hd
    by_cases ha : acc ≤ 400
    · obtain ⟨r, hr⟩ := ih (wrap64 (j + 1)) (wrap64 ((wrap64 (acc + 1)) + (((rd_T51 ((rd_T47 l i).f2) j).f5).length : Int))) (by rw [w64 (by omega) (by omega)]; omega) (by rw [w64 (by omega) (by omega)]; omega)
      exact ⟨r, Ev.step (fun k => by simp only [turntableref33_Weight.l1]; rfl) (ev_pos h0 (ev_pos h1 (ev_pos (by omega) (ev_pos ha (ev_pos hj hr)))))⟩
    · obtain ⟨r, hr⟩ := next acc
      exact ⟨r, Ev.step (fun k => by simp only [turntableref33_Weight.l1]; rfl) (ev_pos h0 (ev_pos h1 (ev_pos (by omega) (ev_neg ha hr))))⟩
theorem weight_l0 (l : List S47) (hl : l.length ≤ 9223372036854775806) (hb : ∀ i : Int, 0 ≤ i → i < (l.length : Int) → ((rd_T47 l i).f2).length ≤ 9223372036854775806) :
    ∀ (d : Nat) (i acc : Int), 0 ≤ i → l.length - i.toNat = d → ∃ r, Ev (fun k => turntableref33_Weight.l0 k l 400 acc i) r := by
  intro d
  induction d with
  | zero =>
    intro i acc hi hd
    exact ⟨acc, Ev.step (fun k => by simp only [turntableref33_Weight.l0]; rfl) (ev_neg (by omega) (Ev.step (fun k => by simp only [turntableref33_Weight.j1]; rfl) (ev_neg (by simp) (Ev.now _))))⟩
  | succ d ih =>
    intro i acc hi hd
    have hi1 : i < (l.length : Int) := by omega
    by_cases ha : acc ≤ 400
    · obtain ⟨r, hr⟩ := weight_l1 l i hi hi1 (hb i hi hi1) (fun acc => ih (wrap64 (i + 1)) acc (by rw [w64 (by omega) (by omega)]; omega) (by rw [w64 (by omega) (by omega)]; omega)) _ 0 (wrap64 (acc + (((rd_T47 l i).f0).length : Int))) (by omega) rfl
      exact ⟨r, Ev.step (fun k => by simp only [turntableref33_Weight.l0]; rfl) (ev_pos hi1 (Ev.step (fun k => by simp only [turntableref33_Weight.j1]; rfl) (ev_pos (by simpa using ha) (ev_pos hi (ev_pos hi1 hr)))))⟩
    · exact ⟨acc, Ev.step (fun k => by simp only [turntableref33_Weight.l0]; rfl) (ev_pos hi1 (Ev.step (fun k => by simp only [turntableref33_Weight.j1]; rfl) (ev_neg (by simpa using ha) (Ev.now _))))⟩
theorem light_any (l : List S47) (hl : l.length ≤ 9223372036854775806) (hb : ∀ i : Int, 0 ≤ i → i < (l.length : Int) → ((rd_T47 l i).f2).length ≤ 9223372036854775806) : ∃ b, Ev (fun k => turntablelaw33_light.f k l) b := by
  obtain ⟨r, hr⟩ := weight_l0 l hl hb _ 0 (l.length : Int) (by omega) rfl
  exact ⟨decide (r ≤ 400), Ev.bind (f := fun _ t => some (decide (t ≤ 400))) hr (Ev.now _)⟩

theorem ev_eq {α : Type} {g : Nat → Option α} {r r' : α} (h : r' = r) (k : Ev g r') : Ev g r := h ▸ k
theorem bool_ext {x y : Bool} (h : x = true ↔ y = true) : x = y := by cases x <;> cases y <;> simp_all
theorem refB_1 (d a b nn : Int) (l : List Int) (t0 t1 size n funcs : Int) : refB 1 d a b nn l t0 t1 size n funcs = instB 1 d a b nn l t0 t1 size n funcs := by
  unfold refB instB
  rw [show piecesS 1 = (⟨#[100, 119]⟩ : ByteArray) by decide, show piecesL 1 = [0, 4] by decide]
  simp only [hasC, toList_eq]
  cases h : l.any (offB size)
  all_goals
    apply bool_ext
    simp [okP, toldP, told0, withinB, emptyB, slotB, placeB, allB, h]
    try simp only [← List.length_eq_zero_iff]
    try omega
theorem refB_2 (d a b nn : Int) (l : List Int) (t0 t1 size n funcs : Int) : refB 2 d a b nn l t0 t1 size n funcs = instB 2 d a b nn l t0 t1 size n funcs := by
  unfold refB instB
  rw [show piecesS 2 = (⟨#[100, 97, 98]⟩ : ByteArray) by decide, show piecesL 2 = [0, 1, 2] by decide]
  simp only [hasC, toList_eq]
  cases h : l.any (offB size)
  all_goals
    apply bool_ext
    simp [okP, toldP, told0, withinB, emptyB, slotB, placeB, allB, h]
    try simp only [← List.length_eq_zero_iff]
    try omega
theorem refB_3 (d a b nn : Int) (l : List Int) (t0 t1 size n funcs : Int) : refB 3 d a b nn l t0 t1 size n funcs = instB 3 d a b nn l t0 t1 size n funcs := by
  unfold refB instB
  rw [show piecesS 3 = (⟨#[100, 97, 98]⟩ : ByteArray) by decide, show piecesL 3 = [0, 1, 2] by decide]
  simp only [hasC, toList_eq]
  cases h : l.any (offB size)
  all_goals
    apply bool_ext
    simp [okP, toldP, told0, withinB, emptyB, slotB, placeB, allB, h]
    try simp only [← List.length_eq_zero_iff]
    try omega
theorem refB_4 (d a b nn : Int) (l : List Int) (t0 t1 size n funcs : Int) : refB 4 d a b nn l t0 t1 size n funcs = instB 4 d a b nn l t0 t1 size n funcs := by
  unfold refB instB
  rw [show piecesS 4 = (⟨#[100, 97, 98]⟩ : ByteArray) by decide, show piecesL 4 = [0, 1, 2] by decide]
  simp only [hasC, toList_eq]
  cases h : l.any (offB size)
  all_goals
    apply bool_ext
    simp [okP, toldP, told0, withinB, emptyB, slotB, placeB, allB, h]
    try simp only [← List.length_eq_zero_iff]
    try omega
theorem refB_5 (d a b nn : Int) (l : List Int) (t0 t1 size n funcs : Int) : refB 5 d a b nn l t0 t1 size n funcs = instB 5 d a b nn l t0 t1 size n funcs := by
  unfold refB instB
  rw [show piecesS 5 = (⟨#[100, 97, 98]⟩ : ByteArray) by decide, show piecesL 5 = [0, 1, 2] by decide]
  simp only [hasC, toList_eq]
  cases h : l.any (offB size)
  all_goals
    apply bool_ext
    simp [okP, toldP, told0, withinB, emptyB, slotB, placeB, allB, h]
    try simp only [← List.length_eq_zero_iff]
    try omega
theorem refB_6 (d a b nn : Int) (l : List Int) (t0 t1 size n funcs : Int) : refB 6 d a b nn l t0 t1 size n funcs = instB 6 d a b nn l t0 t1 size n funcs := by
  unfold refB instB
  rw [show piecesS 6 = (⟨#[100, 97, 98]⟩ : ByteArray) by decide, show piecesL 6 = [0, 1, 2] by decide]
  simp only [hasC, toList_eq]
  cases h : l.any (offB size)
  all_goals
    apply bool_ext
    simp [okP, toldP, told0, withinB, emptyB, slotB, placeB, allB, h]
    try simp only [← List.length_eq_zero_iff]
    try omega
theorem refB_7 (d a b nn : Int) (l : List Int) (t0 t1 size n funcs : Int) : refB 7 d a b nn l t0 t1 size n funcs = instB 7 d a b nn l t0 t1 size n funcs := by
  unfold refB instB
  rw [show piecesS 7 = (⟨#[100, 97, 98]⟩ : ByteArray) by decide, show piecesL 7 = [0, 1, 2] by decide]
  simp only [hasC, toList_eq]
  cases h : l.any (offB size)
  all_goals
    apply bool_ext
    simp [okP, toldP, told0, withinB, emptyB, slotB, placeB, allB, h]
    try simp only [← List.length_eq_zero_iff]
    try omega
theorem refB_9 (d a b nn : Int) (l : List Int) (t0 t1 size n funcs : Int) : refB 9 d a b nn l t0 t1 size n funcs = instB 9 d a b nn l t0 t1 size n funcs := by
  unfold refB instB
  rw [show piecesS 9 = (⟨#[100, 97, 98]⟩ : ByteArray) by decide, show piecesL 9 = [0, 1, 2] by decide]
  simp only [hasC, toList_eq]
  cases h : l.any (offB size)
  all_goals
    apply bool_ext
    simp [okP, toldP, told0, withinB, emptyB, slotB, placeB, allB, h]
    try simp only [← List.length_eq_zero_iff]
    try omega
theorem refB_8 (d a b nn : Int) (l : List Int) (t0 t1 size n funcs : Int) : refB 8 d a b nn l t0 t1 size n funcs = instB 8 d a b nn l t0 t1 size n funcs := by
  unfold refB instB
  rw [show piecesS 8 = (⟨#[100]⟩ : ByteArray) by decide, show piecesL 8 = [0] by decide]
  simp only [hasC, toList_eq]
  cases h : l.any (offB size)
  all_goals
    apply bool_ext
    simp [okP, toldP, told0, withinB, emptyB, slotB, placeB, allB, h]
    try simp only [← List.length_eq_zero_iff]
    try omega
theorem refB_10 (d a b nn : Int) (l : List Int) (t0 t1 size n funcs : Int) : refB 10 d a b nn l t0 t1 size n funcs = instB 10 d a b nn l t0 t1 size n funcs := by
  unfold refB instB
  rw [show piecesS 10 = (⟨#[100, 115]⟩ : ByteArray) by decide, show piecesL 10 = [0, 3] by decide]
  simp only [hasC, toList_eq]
  cases h : l.any (offB size)
  all_goals
    apply bool_ext
    simp [okP, toldP, told0, withinB, emptyB, slotB, placeB, allB, h]
    try simp only [← List.length_eq_zero_iff]
    try omega
theorem refB_11 (d a b nn : Int) (l : List Int) (t0 t1 size n funcs : Int) : refB 11 d a b nn l t0 t1 size n funcs = instB 11 d a b nn l t0 t1 size n funcs := by
  unfold refB instB
  rw [show piecesS 11 = (⟨#[100, 97, 115]⟩ : ByteArray) by decide, show piecesL 11 = [0, 1, 3] by decide]
  simp only [hasC, toList_eq]
  cases h : l.any (offB size)
  all_goals
    apply bool_ext
    simp [okP, toldP, told0, withinB, emptyB, slotB, placeB, allB, h]
    try simp only [← List.length_eq_zero_iff]
    try omega
theorem refB_12 (d a b nn : Int) (l : List Int) (t0 t1 size n funcs : Int) : refB 12 d a b nn l t0 t1 size n funcs = instB 12 d a b nn l t0 t1 size n funcs := by
  unfold refB instB
  rw [show piecesS 12 = (⟨#[100, 97, 115]⟩ : ByteArray) by decide, show piecesL 12 = [0, 1, 3] by decide]
  simp only [hasC, toList_eq]
  cases h : l.any (offB size)
  all_goals
    apply bool_ext
    simp [okP, toldP, told0, withinB, emptyB, slotB, placeB, allB, h]
    try simp only [← List.length_eq_zero_iff]
    try omega
theorem refB_15 (d a b nn : Int) (l : List Int) (t0 t1 size n funcs : Int) : refB 15 d a b nn l t0 t1 size n funcs = instB 15 d a b nn l t0 t1 size n funcs := by
  unfold refB instB
  rw [show piecesS 15 = (⟨#[100, 97, 115]⟩ : ByteArray) by decide, show piecesL 15 = [0, 1, 3] by decide]
  simp only [hasC, toList_eq]
  cases h : l.any (offB size)
  all_goals
    apply bool_ext
    simp [okP, toldP, told0, withinB, emptyB, slotB, placeB, allB, h]
    try simp only [← List.length_eq_zero_iff]
    try omega
theorem refB_13 (d a b nn : Int) (l : List Int) (t0 t1 size n funcs : Int) : refB 13 d a b nn l t0 t1 size n funcs = instB 13 d a b nn l t0 t1 size n funcs := by
  unfold refB instB
  rw [show piecesS 13 = (⟨#[97, 98, 115]⟩ : ByteArray) by decide, show piecesL 13 = [1, 2, 3] by decide]
  simp only [hasC, toList_eq]
  cases h : l.any (offB size)
  all_goals
    apply bool_ext
    simp [okP, toldP, told0, withinB, emptyB, slotB, placeB, allB, h]
    try simp only [← List.length_eq_zero_iff]
    try omega
theorem refB_14 (d a b nn : Int) (l : List Int) (t0 t1 size n funcs : Int) : refB 14 d a b nn l t0 t1 size n funcs = instB 14 d a b nn l t0 t1 size n funcs := by
  unfold refB instB
  rw [show piecesS 14 = (⟨#[97, 98, 115]⟩ : ByteArray) by decide, show piecesL 14 = [1, 2, 3] by decide]
  simp only [hasC, toList_eq]
  cases h : l.any (offB size)
  all_goals
    apply bool_ext
    simp [okP, toldP, told0, withinB, emptyB, slotB, placeB, allB, h]
    try simp only [← List.length_eq_zero_iff]
    try omega
theorem refB_16 (d a b nn : Int) (l : List Int) (t0 t1 size n funcs : Int) : refB 16 d a b nn l t0 t1 size n funcs = instB 16 d a b nn l t0 t1 size n funcs := by
  unfold refB instB
  rw [show piecesS 16 = (⟨#[100, 97]⟩ : ByteArray) by decide, show piecesL 16 = [0, 1] by decide]
  simp only [hasC, toList_eq]
  cases h : l.any (offB size)
  all_goals
    apply bool_ext
    simp [okP, toldP, told0, withinB, emptyB, slotB, placeB, allB, h]
    try simp only [← List.length_eq_zero_iff]
    try omega
theorem refB_17 (d a b nn : Int) (l : List Int) (t0 t1 size n funcs : Int) : refB 17 d a b nn l t0 t1 size n funcs = instB 17 d a b nn l t0 t1 size n funcs := by
  unfold refB instB
  rw [show piecesS 17 = (⟨#[100, 97]⟩ : ByteArray) by decide, show piecesL 17 = [0, 1] by decide]
  simp only [hasC, toList_eq]
  cases h : l.any (offB size)
  all_goals
    apply bool_ext
    simp [okP, toldP, told0, withinB, emptyB, slotB, placeB, allB, h]
    try simp only [← List.length_eq_zero_iff]
    try omega
theorem refB_30 (d a b nn : Int) (l : List Int) (t0 t1 size n funcs : Int) : refB 30 d a b nn l t0 t1 size n funcs = instB 30 d a b nn l t0 t1 size n funcs := by
  unfold refB instB
  rw [show piecesS 30 = (⟨#[100, 97]⟩ : ByteArray) by decide, show piecesL 30 = [0, 1] by decide]
  simp only [hasC, toList_eq]
  cases h : l.any (offB size)
  all_goals
    apply bool_ext
    simp [okP, toldP, told0, withinB, emptyB, slotB, placeB, allB, h]
    try simp only [← List.length_eq_zero_iff]
    try omega
theorem refB_18 (d a b nn : Int) (l : List Int) (t0 t1 size n funcs : Int) : refB 18 d a b nn l t0 t1 size n funcs = instB 18 d a b nn l t0 t1 size n funcs := by
  unfold refB instB
  rw [show piecesS 18 = (⟨#[97, 98]⟩ : ByteArray) by decide, show piecesL 18 = [1, 2] by decide]
  simp only [hasC, toList_eq]
  cases h : l.any (offB size)
  all_goals
    apply bool_ext
    simp [okP, toldP, told0, withinB, emptyB, slotB, placeB, allB, h]
    try simp only [← List.length_eq_zero_iff]
    try omega
theorem refB_19 (d a b nn : Int) (l : List Int) (t0 t1 size n funcs : Int) : refB 19 d a b nn l t0 t1 size n funcs = instB 19 d a b nn l t0 t1 size n funcs := by
  unfold refB instB
  rw [show piecesS 19 = (⟨#[97, 98]⟩ : ByteArray) by decide, show piecesL 19 = [1, 2] by decide]
  simp only [hasC, toList_eq]
  cases h : l.any (offB size)
  all_goals
    apply bool_ext
    simp [okP, toldP, told0, withinB, emptyB, slotB, placeB, allB, h]
    try simp only [← List.length_eq_zero_iff]
    try omega
theorem refB_21 (d a b nn : Int) (l : List Int) (t0 t1 size n funcs : Int) : refB 21 d a b nn l t0 t1 size n funcs = instB 21 d a b nn l t0 t1 size n funcs := by
  unfold refB instB
  rw [show piecesS 21 = (⟨#[100, 97, 115, 108]⟩ : ByteArray) by decide, show piecesL 21 = [0, 1, 3, 5] by decide]
  simp only [hasC, toList_eq]
  cases h : l.any (offB size)
  all_goals
    apply bool_ext
    simp [okP, toldP, told0, withinB, emptyB, slotB, placeB, allB, h]
    try simp only [← List.length_eq_zero_iff]
    try omega
theorem refB_22 (d a b nn : Int) (l : List Int) (t0 t1 size n funcs : Int) : refB 22 d a b nn l t0 t1 size n funcs = instB 22 d a b nn l t0 t1 size n funcs := by
  unfold refB instB
  rw [show piecesS 22 = (⟨#[97]⟩ : ByteArray) by decide, show piecesL 22 = [1] by decide]
  simp only [hasC, toList_eq]
  cases h : l.any (offB size)
  all_goals
    apply bool_ext
    simp [okP, toldP, told0, withinB, emptyB, slotB, placeB, allB, h]
    try simp only [← List.length_eq_zero_iff]
    try omega
theorem refB_25 (d a b nn : Int) (l : List Int) (t0 t1 size n funcs : Int) : refB 25 d a b nn l t0 t1 size n funcs = instB 25 d a b nn l t0 t1 size n funcs := by
  unfold refB instB
  rw [show piecesS 25 = (⟨#[97]⟩ : ByteArray) by decide, show piecesL 25 = [1] by decide]
  simp only [hasC, toList_eq]
  cases h : l.any (offB size)
  all_goals
    apply bool_ext
    simp [okP, toldP, told0, withinB, emptyB, slotB, placeB, allB, h]
    try simp only [← List.length_eq_zero_iff]
    try omega
theorem refB_28 (d a b nn : Int) (l : List Int) (t0 t1 size n funcs : Int) : refB 28 d a b nn l t0 t1 size n funcs = instB 28 d a b nn l t0 t1 size n funcs := by
  unfold refB instB
  rw [show piecesS 28 = (⟨#[97]⟩ : ByteArray) by decide, show piecesL 28 = [1] by decide]
  simp only [hasC, toList_eq]
  cases h : l.any (offB size)
  all_goals
    apply bool_ext
    simp [okP, toldP, told0, withinB, emptyB, slotB, placeB, allB, h]
    try simp only [← List.length_eq_zero_iff]
    try omega
theorem refB_23 (d a b nn : Int) (l : List Int) (t0 t1 size n funcs : Int) : refB 23 d a b nn l t0 t1 size n funcs = instB 23 d a b nn l t0 t1 size n funcs := by
  unfold refB instB
  rw [show piecesS 23 = (⟨#[115]⟩ : ByteArray) by decide, show piecesL 23 = [3] by decide]
  simp only [hasC, toList_eq]
  cases h : l.any (offB size)
  all_goals
    apply bool_ext
    simp [okP, toldP, told0, withinB, emptyB, slotB, placeB, allB, h]
    try simp only [← List.length_eq_zero_iff]
    try omega
theorem refB_29 (d a b nn : Int) (l : List Int) (t0 t1 size n funcs : Int) : refB 29 d a b nn l t0 t1 size n funcs = instB 29 d a b nn l t0 t1 size n funcs := by
  unfold refB instB
  rw [show piecesS 29 = (⟨#[115]⟩ : ByteArray) by decide, show piecesL 29 = [3] by decide]
  simp only [hasC, toList_eq]
  cases h : l.any (offB size)
  all_goals
    apply bool_ext
    simp [okP, toldP, told0, withinB, emptyB, slotB, placeB, allB, h]
    try simp only [← List.length_eq_zero_iff]
    try omega
theorem refB_26 (d a b nn : Int) (l : List Int) (t0 t1 size n funcs : Int) : refB 26 d a b nn l t0 t1 size n funcs = instB 26 d a b nn l t0 t1 size n funcs := by
  unfold refB instB
  rw [show piecesS 26 = (⟨#[111]⟩ : ByteArray) by decide, show piecesL 26 = [6] by decide]
  simp only [hasC, toList_eq]
  cases h : l.any (offB size)
  all_goals
    apply bool_ext
    simp [okP, toldP, told0, withinB, emptyB, slotB, placeB, allB, h]
    try simp only [← List.length_eq_zero_iff]
    try omega
theorem refB_27 (d a b nn : Int) (l : List Int) (t0 t1 size n funcs : Int) : refB 27 d a b nn l t0 t1 size n funcs = instB 27 d a b nn l t0 t1 size n funcs := by
  unfold refB instB
  rw [show piecesS 27 = (⟨#[97, 116]⟩ : ByteArray) by decide, show piecesL 27 = [1, 7] by decide]
  simp only [hasC, toList_eq]
  cases h : l.any (offB size)
  all_goals
    apply bool_ext
    simp [okP, toldP, told0, withinB, emptyB, slotB, placeB, allB, h]
    try simp only [← List.length_eq_zero_iff]
    try omega
theorem refB_none (op d a b nn : Int) (l : List Int) (t0 t1 size n funcs : Int) (h : ¬ (op = 1 ∨ op = 2 ∨ op = 3 ∨ op = 4 ∨ op = 5 ∨ op = 6 ∨ op = 7 ∨ op = 8 ∨ op = 9 ∨ op = 10 ∨ op = 11 ∨ op = 12 ∨ op = 13 ∨ op = 14 ∨ op = 15 ∨ op = 16 ∨ op = 17 ∨ op = 18 ∨ op = 19 ∨ op = 21 ∨ op = 22 ∨ op = 23 ∨ op = 25 ∨ op = 26 ∨ op = 27 ∨ op = 28 ∨ op = 29 ∨ op = 30)) : refB op d a b nn l t0 t1 size n funcs = instB op d a b nn l t0 t1 size n funcs := by
  simp only [not_or] at h
  unfold refB instB
  rw [show piecesS op = (⟨#[]⟩ : ByteArray) by unfold piecesS; simp [h], show piecesL op = [] by unfold piecesL; simp [h]]
  simp only [toList_eq]
  simp
theorem refB_eq (op d a b nn : Int) (l : List Int) (t0 t1 size n funcs : Int) : refB op d a b nn l t0 t1 size n funcs = instB op d a b nn l t0 t1 size n funcs := by
  by_cases h : op = 1 ∨ op = 2 ∨ op = 3 ∨ op = 4 ∨ op = 5 ∨ op = 6 ∨ op = 7 ∨ op = 8 ∨ op = 9 ∨ op = 10 ∨ op = 11 ∨ op = 12 ∨ op = 13 ∨ op = 14 ∨ op = 15 ∨ op = 16 ∨ op = 17 ∨ op = 18 ∨ op = 19 ∨ op = 21 ∨ op = 22 ∨ op = 23 ∨ op = 25 ∨ op = 26 ∨ op = 27 ∨ op = 28 ∨ op = 29 ∨ op = 30
  · rcases h with rfl | rfl | rfl | rfl | rfl | rfl | rfl | rfl | rfl | rfl | rfl | rfl | rfl | rfl | rfl | rfl | rfl | rfl | rfl | rfl | rfl | rfl | rfl | rfl | rfl | rfl | rfl | rfl
    · exact refB_1 d a b nn l t0 t1 size n funcs
    · exact refB_2 d a b nn l t0 t1 size n funcs
    · exact refB_3 d a b nn l t0 t1 size n funcs
    · exact refB_4 d a b nn l t0 t1 size n funcs
    · exact refB_5 d a b nn l t0 t1 size n funcs
    · exact refB_6 d a b nn l t0 t1 size n funcs
    · exact refB_7 d a b nn l t0 t1 size n funcs
    · exact refB_8 d a b nn l t0 t1 size n funcs
    · exact refB_9 d a b nn l t0 t1 size n funcs
    · exact refB_10 d a b nn l t0 t1 size n funcs
    · exact refB_11 d a b nn l t0 t1 size n funcs
    · exact refB_12 d a b nn l t0 t1 size n funcs
    · exact refB_13 d a b nn l t0 t1 size n funcs
    · exact refB_14 d a b nn l t0 t1 size n funcs
    · exact refB_15 d a b nn l t0 t1 size n funcs
    · exact refB_16 d a b nn l t0 t1 size n funcs
    · exact refB_17 d a b nn l t0 t1 size n funcs
    · exact refB_18 d a b nn l t0 t1 size n funcs
    · exact refB_19 d a b nn l t0 t1 size n funcs
    · exact refB_21 d a b nn l t0 t1 size n funcs
    · exact refB_22 d a b nn l t0 t1 size n funcs
    · exact refB_23 d a b nn l t0 t1 size n funcs
    · exact refB_25 d a b nn l t0 t1 size n funcs
    · exact refB_26 d a b nn l t0 t1 size n funcs
    · exact refB_27 d a b nn l t0 t1 size n funcs
    · exact refB_28 d a b nn l t0 t1 size n funcs
    · exact refB_29 d a b nn l t0 t1 size n funcs
    · exact refB_30 d a b nn l t0 t1 size n funcs
  · exact refB_none op d a b nn l t0 t1 size n funcs h
/-! ### a body, and all of them -/
def instOf (size n funcs : Int) (x : S51) : Bool := instB x.f0 x.f1 x.f2 x.f3 x.f4 x.f5 x.f6.f0 x.f6.f1 size n funcs
def lastOp (l : List S51) : Int := (rd_T51 l (wrap64 ((l.length : Int) - 1))).f0
def bodyErr (f : S47) (funcs : Int) : Int :=
  if f.f1 < 1 ∨ f.f1 > 4096 ∨ (f.f0.length : Int) > 8 ∨ (f.f2.length : Int) > 65536 then 6
  else if f.f2.length = 0 ∨ lastOp f.f2 < 26 ∨ lastOp f.f2 > 29 then 15
  else if f.f0.any (offB f.f1) = true then 8
  else if f.f2.all (instOf f.f1 (f.f2.length : Int) funcs) = true then 0 else 2
/-- Lists that are no longer than a machine has room for. -/
structure Fit (f : S47) : Prop where
  p : f.f0.length ≤ 9223372036854775806
  c : f.f2.length ≤ 9223372036854775806
  a : ∀ x ∈ f.f2, x.f5.length ≤ 9223372036854775806
theorem one_l0 (f : S47) (hf : Fit f) (funcs : Int) : ∀ (d i : Nat), f.f2.length - i = d → Ev (fun k => turntableref33_one.l0 k funcs (f.f2.length : Int) (i : Int) f.f0 f.f1 f.f2) (if (f.f2.drop i).all (instOf f.f1 (f.f2.length : Int) funcs) = true then 0 else 2) := by
  have hc := hf.c
  intro d
  induction d with
  | zero =>
    intro i hd
    refine Ev.step (fun k => by simp only [turntableref33_one.l0]; rfl) (ev_neg (by omega) ?_)
    rw [List.drop_eq_nil_of_le (by omega)]
    exact Ev.now _
  | succ d ih =>
    intro i hd
    have hi : i < f.f2.length := by omega
    refine Ev.step (fun k => by simp only [turntableref33_one.l0]; rfl) (ev_pos (by omega) (ev_pos (by omega) (ev_pos (by omega) ?_)))
    rw [rd51_at _ i hi, List.drop_eq_getElem_cons hi, List.all_cons]
    refine ev_some (show turntableref33_inst.f _ _ _ _ _ _ _ _ _ _ _ = some _ from if_pos (hf.a _ (List.getElem_mem hi))) ?_
    rw [refB_eq]
    show Ev _ (if (instOf f.f1 (f.f2.length : Int) funcs f.f2[i] && _) = true then 0 else 2)
    unfold instOf
    cases instB f.f2[i].f0 f.f2[i].f1 f.f2[i].f2 f.f2[i].f3 f.f2[i].f4 f.f2[i].f5 f.f2[i].f6.f0 f.f2[i].f6.f1 f.f1 (f.f2.length : Int) funcs
    · exact ev_neg (by simp) (ev_eq (by simp) (Ev.now _))
    · have hw : wrap64 ((i : Int) + 1) = ((i + 1 : Nat) : Int) := by rw [w64 (by omega) (by omega)]; omega
      rw [hw]
      exact ev_pos rfl (ev_eq (by simp [instOf]) (ih (i + 1) (by omega)))
theorem one_any (f : S47) (hf : Fit f) (funcs : Int) : Ev (fun k => turntableref33_one.f k f.f0 f.f1 f.f2 funcs) (bodyErr f funcs) := by
  have hc := hf.c
  have hp := hf.p
  have hj1 : ∀ x : Bool, ¬ (f.f1 < 1 ∨ f.f1 > 4096 ∨ (f.f0.length : Int) > 8 ∨ (f.f2.length : Int) > 65536) → (x = true ↔ (f.f2.length = 0 ∨ lastOp f.f2 < 26 ∨ lastOp f.f2 > 29)) → Ev (fun k => turntableref33_one.j1 k funcs (f.f2.length : Int) x f.f0 f.f1 f.f2) (bodyErr f funcs) := by
    intro x h6 hx
    refine Ev.step (fun k => by simp only [turntableref33_one.j1]; rfl) ?_
    unfold bodyErr
    rw [if_neg h6]
    cases x
    · rw [if_neg (fun h => by have := hx.2 h; cases this)]
      refine ev_neg (by simp) (ev_bind' (all_any f.f0 f.f1 hp) ?_)
      have hall : allB f.f0 f.f1 = !(f.f0.any (offB f.f1)) := by unfold allB; rw [decide_eq_true (by omega)]; simp
      rw [hall]
      cases f.f0.any (offB f.f1)
      · have := one_l0 f hf funcs _ 0 rfl
        exact ev_pos rfl (ev_eq (by simp) this)
      · exact ev_neg (by simp) (ev_eq (by simp) (Ev.now _))
    · rw [if_pos (hx.1 rfl)]
      exact ev_pos rfl (Ev.now _)
  have hj0 : ∀ x : Bool, (x = true ↔ (f.f1 < 1 ∨ f.f1 > 4096 ∨ (f.f0.length : Int) > 8 ∨ (f.f2.length : Int) > 65536)) → Ev (fun k => turntableref33_one.j0 k funcs (f.f2.length : Int) x f.f0 f.f1 f.f2) (bodyErr f funcs) := by
    intro x hx
    refine Ev.step (fun k => by simp only [turntableref33_one.j0]; rfl) ?_
    cases x
    · have h6 : ¬ (f.f1 < 1 ∨ f.f1 > 4096 ∨ (f.f0.length : Int) > 8 ∨ (f.f2.length : Int) > 65536) := fun h => by have := hx.2 h; cases this
      refine ev_neg (by simp) ?_
      by_cases h0 : (f.f2.length : Int) = 0
      · exact ev_pos h0 (hj1 true h6 ⟨fun _ => .inl (by omega), fun _ => rfl⟩)
      · have hw : wrap64 ((f.f2.length : Int) - 1) = (f.f2.length : Int) - 1 := w64 (by omega) (by omega)
        refine ev_neg h0 (ev_pos (by omega) (ev_pos (by omega) ?_))
        by_cases h1 : lastOp f.f2 < 26
        · exact ev_pos h1 (hj1 true h6 ⟨fun _ => .inr (.inl h1), fun _ => rfl⟩)
        · refine ev_neg h1 (hj1 _ h6 ⟨fun h => .inr (.inr (of_decide_eq_true h)), fun h => decide_eq_true ?_⟩)
          rcases h with h | h | h
          · omega
          · exact absurd h h1
          · exact h
    · unfold bodyErr
      rw [if_pos (hx.1 rfl)]
      exact ev_pos rfl (Ev.now _)
  unfold turntableref33_one.f
  by_cases h1 : f.f1 < 1
  · exact ev_pos h1 (hj0 true ⟨fun _ => .inl h1, fun _ => rfl⟩)
  · by_cases h2 : f.f1 > 4096
    · exact ev_neg h1 (ev_pos h2 (hj0 true ⟨fun _ => .inr (.inl h2), fun _ => rfl⟩))
    · by_cases h3 : (f.f0.length : Int) > 8
      · exact ev_neg h1 (ev_neg h2 (ev_pos h3 (hj0 true ⟨fun _ => .inr (.inr (.inl h3)), fun _ => rfl⟩)))
      · refine ev_neg h1 (ev_neg h2 (ev_neg h3 (hj0 _ ⟨fun h => .inr (.inr (.inr (of_decide_eq_true h))), fun h => decide_eq_true ?_⟩)))
        rcases h with h | h | h | h
        · exact absurd h h1
        · exact absurd h h2
        · exact absurd h h3
        · exact h

/-- What is wrong first, from the i-th body on. -/
def chkL (funcs : Int) : List S47 → Nat → Int × Int
  | [], _ => (0, 0)
  | f :: r, i => if bodyErr f funcs = 0 then chkL funcs r (i + 1) else (bodyErr f funcs, i)
def chk (l : List S47) : Int × Int := if (l.length : Int) > 32 then (6, (l.length : Int)) else chkL (l.length : Int) l 0
theorem ref_chk_l0 (l : List S47) (hl : l.length ≤ 32) (hf : ∀ f ∈ l, Fit f) : ∀ (d i : Nat), l.length - i = d → Ev (fun k => turntableref33_Check.l0 k l (i : Int)) (chkL (l.length : Int) (l.drop i) i) := by
  intro d
  induction d with
  | zero =>
    intro i hd
    refine Ev.step (fun k => by simp only [turntableref33_Check.l0]; rfl) (ev_neg (by omega) ?_)
    rw [List.drop_eq_nil_of_le (by omega)]
    exact Ev.now _
  | succ d ih =>
    intro i hd
    have hi : i < l.length := by omega
    refine Ev.step (fun k => by simp only [turntableref33_Check.l0]; rfl) (ev_pos (by omega) (ev_pos (by omega) ?_))
    rw [rd47_at _ i hi, List.drop_eq_getElem_cons hi]
    refine ev_bind' (one_any l[i] (hf _ (List.getElem_mem hi)) (l.length : Int)) ?_
    have hw : wrap64 ((i : Int) + 1) = ((i + 1 : Nat) : Int) := by rw [w64 (by omega) (by omega)]; omega
    rw [hw]
    by_cases h : bodyErr l[i] (l.length : Int) = 0
    · exact ev_pos h (ev_eq (by simp [chkL, h]) (ih (i + 1) (by omega)))
    · exact ev_neg h (ev_eq (by simp [chkL, h]) (Ev.now _))
theorem ref_chk (l : List S47) (hf : ∀ f ∈ l, Fit f) : Ev (fun k => turntableref33_Check.f k l) (chk l) := by
  unfold turntableref33_Check.f chk
  by_cases h : (l.length : Int) > 32
  · rw [if_pos h]; exact ev_pos h (Ev.now _)
  · rw [if_neg h]; exact ev_neg h (ref_chk_l0 l (by omega) hf _ 0 rfl)

/-! ### the program's own -/
theorem ends_any (op : Int) : code_ends.f op = some (decide (26 ≤ op) && decide (op ≤ 29)) := by
  unfold code_ends.f
  by_cases h1 : op = 26
  · subst h1; rfl
  · by_cases h2 : op = 27
    · subst h2; rfl
    · by_cases h3 : op = 28
      · subst h3; rfl
      · rw [if_neg h1, if_neg h2, if_neg h3]
        congr 1
        by_cases h4 : op = 29
        · subst h4; rfl
        · rw [beq_eq_false_iff_ne.mpr h4]
          by_cases h5 : 26 ≤ op
          · rw [decide_eq_false (show ¬ op ≤ 29 by omega)]; simp
          · rw [decide_eq_false h5]; rfl
theorem prog_l1 (l : List S47) (f : S47) (hf : Fit f) (fi : Int) (r : Int × Int) (hr : f.f2.all (instOf f.f1 (f.f2.length : Int) (l.length : Int)) = true → Ev (fun k => code_Check.l0 k l l (l.length : Int) (wrap64 (fi + 1))) r) (hr2 : ¬ f.f2.all (instOf f.f1 (f.f2.length : Int) (l.length : Int)) = true → r = (2, fi)) :
    ∀ (d i : Nat), f.f2.length - i = d → (f.f2.take i).all (instOf f.f1 (f.f2.length : Int) (l.length : Int)) = true → Ev (fun k => code_Check.l1 k l fi (f.f2.length : Int) l (l.length : Int) fi f.f2 (f.f2.length : Int) (i : Int) f.f0 f.f1 f.f2) r := by
  have hc := hf.c
  intro d
  induction d with
  | zero =>
    intro i hd ht
    rw [List.take_of_length_le (by omega)] at ht
    exact Ev.step (fun k => by simp only [code_Check.l1]; rfl) (ev_neg (by omega) (hr ht))
  | succ d ih =>
    intro i hd ht
    have hi : i < f.f2.length := by omega
    refine Ev.step (fun k => by simp only [code_Check.l1]; rfl) (ev_pos (by omega) (ev_pos (by omega) (ev_pos (by omega) ?_)))
    rw [rd51_at _ i hi]
    refine ev_some (show code_inst.f _ _ _ _ _ _ _ _ _ _ _ = some _ from rfl) ?_
    have hs : (f.f2.take (i + 1)).all (instOf f.f1 (f.f2.length : Int) (l.length : Int)) = instOf f.f1 (f.f2.length : Int) (l.length : Int) f.f2[i] := by
      rw [List.take_succ_eq_append_getElem hi, List.all_append, ht]; simp
    cases h : instOf f.f1 (f.f2.length : Int) (l.length : Int) f.f2[i]
    · refine ev_neg (fun e => by rw [show instB _ _ _ _ _ _ _ _ _ _ _ = false from h] at e; cases e) ?_
      rw [hr2 (fun e => by
        have := List.all_eq_true.mp e _ (List.getElem_mem hi)
        rw [h] at this; cases this)]
      exact Ev.now _
    · have hw : wrap64 ((i : Int) + 1) = ((i + 1 : Nat) : Int) := by rw [w64 (by omega) (by omega)]; omega
      rw [hw]
      exact ev_pos h (ih (i + 1) (by omega) (by rw [hs, h]))
theorem prog_l0 (l : List S47) (hl : l.length ≤ 32) (hf : ∀ f ∈ l, Fit f) : ∀ (d i : Nat), l.length - i = d → Ev (fun k => code_Check.l0 k l l (l.length : Int) (i : Int)) (chkL (l.length : Int) (l.drop i) i) := by
  intro d
  induction d with
  | zero =>
    intro i hd
    refine Ev.step (fun k => by simp only [code_Check.l0]; rfl) (ev_neg (by omega) ?_)
    rw [List.drop_eq_nil_of_le (by omega)]
    exact Ev.now _
  | succ d ih =>
    intro i hd
    have hi : i < l.length := by omega
    have hw : wrap64 ((i : Int) + 1) = ((i + 1 : Nat) : Int) := by rw [w64 (by omega) (by omega)]; omega
    have hfi := hf _ (List.getElem_mem hi)
    refine Ev.step (fun k => by simp only [code_Check.l0]; rfl) (ev_pos (by omega) (ev_pos (by omega) (ev_pos (by omega) ?_)))
    rw [rd47_at _ i hi, List.drop_eq_getElem_cons hi]
    have hnext := ih (i + 1) (by omega)
    rw [← hw] at hnext
    generalize hg : l[i] = f at *
    have hc := hfi.c
    have hres : chkL (l.length : Int) (f :: l.drop (i + 1)) i = if bodyErr f (l.length : Int) = 0 then chkL (l.length : Int) (l.drop (i + 1)) (i + 1) else (bodyErr f (l.length : Int), (i : Int)) := rfl
    rw [hres]
    have hj2 : ∀ x : Bool, ¬ (f.f1 < 1 ∨ f.f1 > 4096 ∨ (f.f0.length : Int) > 8 ∨ (f.f2.length : Int) > 65536) → (x = true ↔ (f.f2.length = 0 ∨ lastOp f.f2 < 26 ∨ lastOp f.f2 > 29)) → Ev (fun k => code_Check.j2 k l (i : Int) (f.f2.length : Int) l (l.length : Int) (i : Int) x f.f0 f.f1 f.f2) (if bodyErr f (l.length : Int) = 0 then chkL (l.length : Int) (l.drop (i + 1)) (i + 1) else (bodyErr f (l.length : Int), (i : Int))) := by
      intro x h6 hx
      refine Ev.step (fun k => by simp only [code_Check.j2]; rfl) ?_
      cases x
      · have h15 : ¬ (f.f2.length = 0 ∨ lastOp f.f2 < 26 ∨ lastOp f.f2 > 29) := fun h => by have := hx.2 h; cases this
        refine ev_neg (by simp) ?_
        by_cases h8 : f.f0.any (offB f.f1) = true
        · have e : bodyErr f (l.length : Int) = 8 := by unfold bodyErr; rw [if_neg h6, if_neg h15, if_pos h8]
          rw [e]
          exact ev_pos h8 (Ev.now _)
        · refine ev_neg h8 ?_
          have e : bodyErr f (l.length : Int) = if f.f2.all (instOf f.f1 (f.f2.length : Int) (l.length : Int)) = true then 0 else 2 := by unfold bodyErr; rw [if_neg h6, if_neg h15, if_neg h8]
          rw [e]
          refine prog_l1 l f hfi (i : Int) _ (fun h => ?_) (fun h => ?_) _ 0 rfl rfl
          · rw [if_pos h]; exact hnext
          · rw [if_neg h]; rfl
      · have e : bodyErr f (l.length : Int) = 15 := by unfold bodyErr; rw [if_neg h6, if_pos (hx.1 rfl)]
        rw [e]
        exact ev_pos rfl (Ev.now _)
    have hj1 : ∀ x : Bool, (x = true ↔ (f.f1 < 1 ∨ f.f1 > 4096 ∨ (f.f0.length : Int) > 8 ∨ (f.f2.length : Int) > 65536)) → Ev (fun k => code_Check.j1 k l (i : Int) (f.f2.length : Int) l (l.length : Int) (i : Int) x f.f0 f.f1 f.f2) (if bodyErr f (l.length : Int) = 0 then chkL (l.length : Int) (l.drop (i + 1)) (i + 1) else (bodyErr f (l.length : Int), (i : Int))) := by
      intro x hx
      refine Ev.step (fun k => by simp only [code_Check.j1]; rfl) ?_
      cases x
      · have h6 : ¬ (f.f1 < 1 ∨ f.f1 > 4096 ∨ (f.f0.length : Int) > 8 ∨ (f.f2.length : Int) > 65536) := fun h => by have := hx.2 h; cases this
        refine ev_neg (by simp) ?_
        by_cases h0 : (f.f2.length : Int) = 0
        · exact ev_pos h0 (hj2 true h6 ⟨fun _ => .inl (by omega), fun _ => rfl⟩)
        · have hw2 : wrap64 ((f.f2.length : Int) - 1) = (f.f2.length : Int) - 1 := w64 (by omega) (by omega)
          refine ev_neg h0 (ev_pos (by omega) (ev_pos (by omega) (ev_some (ends_any _) (hj2 _ h6 ?_))))
          show (!(decide (26 ≤ lastOp f.f2) && decide (lastOp f.f2 ≤ 29))) = true ↔ _
          generalize lastOp f.f2 = o
          have h00 : ¬ f.f2.length = 0 := by omega
          simp only [h00, false_or]
          simp
          try omega
      · have e : bodyErr f (l.length : Int) = 6 := by unfold bodyErr; rw [if_pos (hx.1 rfl)]
        rw [e]
        exact ev_pos rfl (Ev.now _)
    by_cases h1 : f.f1 < 1
    · exact ev_pos h1 (hj1 true ⟨fun _ => .inl h1, fun _ => rfl⟩)
    · by_cases h2 : f.f1 > 4096
      · exact ev_neg h1 (ev_pos h2 (hj1 true ⟨fun _ => .inr (.inl h2), fun _ => rfl⟩))
      · by_cases h3 : (f.f0.length : Int) > 8
        · exact ev_neg h1 (ev_neg h2 (ev_pos h3 (hj1 true ⟨fun _ => .inr (.inr (.inl h3)), fun _ => rfl⟩)))
        · refine ev_neg h1 (ev_neg h2 (ev_neg h3 (hj1 _ ⟨fun h => .inr (.inr (.inr (of_decide_eq_true h))), fun h => decide_eq_true ?_⟩)))
          rcases h with h | h | h | h
          · exact absurd h h1
          · exact absurd h h2
          · exact absurd h h3
          · exact h
theorem prog_chk (l : List S47) (hf : ∀ f ∈ l, Fit f) : Ev (fun k => code_Check.f k l) (chk l) := by
  unfold code_Check.f chk
  by_cases h : (l.length : Int) > 32
  · rw [if_pos h]; exact ev_pos h (Ev.now _)
  · rw [if_neg h]; exact ev_neg h (prog_l0 l (by omega) hf _ 0 rfl)
end Go.Proofs.Ytpjehipemljkpaa.CodeLaw
