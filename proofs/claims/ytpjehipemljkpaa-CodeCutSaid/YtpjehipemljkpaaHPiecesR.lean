/- What the reference's Pieces answers: what stands behind an operation, a letter each; the empty text of a number that is none of code. -/
import Derived.Test.YtpjehipemljkpaaPCox0
namespace Go.Proofs.Ytpjehipemljkpaa.PCo
open Go.RowKit Go.Proofs.YtpjehipemljkpaaW.PrintWords Go.Proofs.YtpjehipemljkpaaW.PrintLast Go.Proofs.YtpjehipemljkpaaW.PrintMore
set_option linter.unusedVariables false
set_option linter.unusedSimpArgs false


def piecesS (op : Int) : ByteArray := if op = 1 then (⟨#[100, 119]⟩ : ByteArray) else if op = 2 ∨ op = 3 ∨ op = 4 ∨ op = 5 ∨ op = 6 ∨ op = 7 ∨ op = 9 then (⟨#[100, 97, 98]⟩ : ByteArray) else if op = 8 then (⟨#[100]⟩ : ByteArray) else if op = 10 then (⟨#[100, 115]⟩ : ByteArray) else if op = 11 ∨ op = 12 ∨ op = 15 then (⟨#[100, 97, 115]⟩ : ByteArray) else if op = 13 ∨ op = 14 then (⟨#[97, 98, 115]⟩ : ByteArray) else if op = 16 ∨ op = 17 ∨ op = 30 then (⟨#[100, 97]⟩ : ByteArray) else if op = 18 ∨ op = 19 then (⟨#[97, 98]⟩ : ByteArray) else if op = 21 then (⟨#[100, 97, 115, 108]⟩ : ByteArray) else if op = 22 ∨ op = 25 ∨ op = 28 then (⟨#[97]⟩ : ByteArray) else if op = 23 ∨ op = 29 then (⟨#[115]⟩ : ByteArray) else if op = 26 then (⟨#[111]⟩ : ByteArray) else if op = 27 then (⟨#[97, 116]⟩ : ByteArray) else (⟨#[]⟩ : ByteArray)

def turntableref33_Pieces.f (a0 : Int) : Option ByteArray := some (piecesS a0)

def PiecesRPost (w : World) (s : ByteArray) (e : Ending) (w' : World) : Prop := e = .returned (.string s) ∧ Drawn0 w w'

theorem piecesR_1 (w : World) : Calls Try.prog 56 #[.int .i64 1] w (PiecesRPost w (⟨#[100, 119]⟩ : ByteArray)) := by
  go_enter Try.func56, Try.ntmps56
  go_wp2
  go_ret
  exact ⟨rfl, Drawn0.refl _⟩

theorem piecesR_2 (w : World) : Calls Try.prog 56 #[.int .i64 2] w (PiecesRPost w (⟨#[100, 97, 98]⟩ : ByteArray)) := by
  go_enter Try.func56, Try.ntmps56
  go_wp2
  go_ret
  exact ⟨rfl, Drawn0.refl _⟩

theorem piecesR_3 (w : World) : Calls Try.prog 56 #[.int .i64 3] w (PiecesRPost w (⟨#[100, 97, 98]⟩ : ByteArray)) := by
  go_enter Try.func56, Try.ntmps56
  go_wp2
  go_ret
  exact ⟨rfl, Drawn0.refl _⟩

theorem piecesR_4 (w : World) : Calls Try.prog 56 #[.int .i64 4] w (PiecesRPost w (⟨#[100, 97, 98]⟩ : ByteArray)) := by
  go_enter Try.func56, Try.ntmps56
  go_wp2
  go_ret
  exact ⟨rfl, Drawn0.refl _⟩

theorem piecesR_5 (w : World) : Calls Try.prog 56 #[.int .i64 5] w (PiecesRPost w (⟨#[100, 97, 98]⟩ : ByteArray)) := by
  go_enter Try.func56, Try.ntmps56
  go_wp2
  go_ret
  exact ⟨rfl, Drawn0.refl _⟩

theorem piecesR_6 (w : World) : Calls Try.prog 56 #[.int .i64 6] w (PiecesRPost w (⟨#[100, 97, 98]⟩ : ByteArray)) := by
  go_enter Try.func56, Try.ntmps56
  go_wp2
  go_ret
  exact ⟨rfl, Drawn0.refl _⟩

theorem piecesR_7 (w : World) : Calls Try.prog 56 #[.int .i64 7] w (PiecesRPost w (⟨#[100, 97, 98]⟩ : ByteArray)) := by
  go_enter Try.func56, Try.ntmps56
  go_wp2
  go_ret
  exact ⟨rfl, Drawn0.refl _⟩

theorem piecesR_9 (w : World) : Calls Try.prog 56 #[.int .i64 9] w (PiecesRPost w (⟨#[100, 97, 98]⟩ : ByteArray)) := by
  go_enter Try.func56, Try.ntmps56
  go_wp2
  go_ret
  exact ⟨rfl, Drawn0.refl _⟩

theorem piecesR_8 (w : World) : Calls Try.prog 56 #[.int .i64 8] w (PiecesRPost w (⟨#[100]⟩ : ByteArray)) := by
  go_enter Try.func56, Try.ntmps56
  go_wp2
  go_ret
  exact ⟨rfl, Drawn0.refl _⟩

theorem piecesR_10 (w : World) : Calls Try.prog 56 #[.int .i64 10] w (PiecesRPost w (⟨#[100, 115]⟩ : ByteArray)) := by
  go_enter Try.func56, Try.ntmps56
  go_wp2
  go_ret
  exact ⟨rfl, Drawn0.refl _⟩

theorem piecesR_11 (w : World) : Calls Try.prog 56 #[.int .i64 11] w (PiecesRPost w (⟨#[100, 97, 115]⟩ : ByteArray)) := by
  go_enter Try.func56, Try.ntmps56
  go_wp2
  go_ret
  exact ⟨rfl, Drawn0.refl _⟩

theorem piecesR_12 (w : World) : Calls Try.prog 56 #[.int .i64 12] w (PiecesRPost w (⟨#[100, 97, 115]⟩ : ByteArray)) := by
  go_enter Try.func56, Try.ntmps56
  go_wp2
  go_ret
  exact ⟨rfl, Drawn0.refl _⟩

theorem piecesR_15 (w : World) : Calls Try.prog 56 #[.int .i64 15] w (PiecesRPost w (⟨#[100, 97, 115]⟩ : ByteArray)) := by
  go_enter Try.func56, Try.ntmps56
  go_wp2
  go_ret
  exact ⟨rfl, Drawn0.refl _⟩

theorem piecesR_13 (w : World) : Calls Try.prog 56 #[.int .i64 13] w (PiecesRPost w (⟨#[97, 98, 115]⟩ : ByteArray)) := by
  go_enter Try.func56, Try.ntmps56
  go_wp2
  go_ret
  exact ⟨rfl, Drawn0.refl _⟩

theorem piecesR_14 (w : World) : Calls Try.prog 56 #[.int .i64 14] w (PiecesRPost w (⟨#[97, 98, 115]⟩ : ByteArray)) := by
  go_enter Try.func56, Try.ntmps56
  go_wp2
  go_ret
  exact ⟨rfl, Drawn0.refl _⟩

theorem piecesR_16 (w : World) : Calls Try.prog 56 #[.int .i64 16] w (PiecesRPost w (⟨#[100, 97]⟩ : ByteArray)) := by
  go_enter Try.func56, Try.ntmps56
  go_wp2
  go_ret
  exact ⟨rfl, Drawn0.refl _⟩

theorem piecesR_17 (w : World) : Calls Try.prog 56 #[.int .i64 17] w (PiecesRPost w (⟨#[100, 97]⟩ : ByteArray)) := by
  go_enter Try.func56, Try.ntmps56
  go_wp2
  go_ret
  exact ⟨rfl, Drawn0.refl _⟩

theorem piecesR_30 (w : World) : Calls Try.prog 56 #[.int .i64 30] w (PiecesRPost w (⟨#[100, 97]⟩ : ByteArray)) := by
  go_enter Try.func56, Try.ntmps56
  go_wp2
  go_ret
  exact ⟨rfl, Drawn0.refl _⟩

theorem piecesR_18 (w : World) : Calls Try.prog 56 #[.int .i64 18] w (PiecesRPost w (⟨#[97, 98]⟩ : ByteArray)) := by
  go_enter Try.func56, Try.ntmps56
  go_wp2
  go_ret
  exact ⟨rfl, Drawn0.refl _⟩

theorem piecesR_19 (w : World) : Calls Try.prog 56 #[.int .i64 19] w (PiecesRPost w (⟨#[97, 98]⟩ : ByteArray)) := by
  go_enter Try.func56, Try.ntmps56
  go_wp2
  go_ret
  exact ⟨rfl, Drawn0.refl _⟩

theorem piecesR_21 (w : World) : Calls Try.prog 56 #[.int .i64 21] w (PiecesRPost w (⟨#[100, 97, 115, 108]⟩ : ByteArray)) := by
  go_enter Try.func56, Try.ntmps56
  go_wp2
  go_ret
  exact ⟨rfl, Drawn0.refl _⟩

theorem piecesR_22 (w : World) : Calls Try.prog 56 #[.int .i64 22] w (PiecesRPost w (⟨#[97]⟩ : ByteArray)) := by
  go_enter Try.func56, Try.ntmps56
  go_wp2
  go_ret
  exact ⟨rfl, Drawn0.refl _⟩

theorem piecesR_25 (w : World) : Calls Try.prog 56 #[.int .i64 25] w (PiecesRPost w (⟨#[97]⟩ : ByteArray)) := by
  go_enter Try.func56, Try.ntmps56
  go_wp2
  go_ret
  exact ⟨rfl, Drawn0.refl _⟩

theorem piecesR_28 (w : World) : Calls Try.prog 56 #[.int .i64 28] w (PiecesRPost w (⟨#[97]⟩ : ByteArray)) := by
  go_enter Try.func56, Try.ntmps56
  go_wp2
  go_ret
  exact ⟨rfl, Drawn0.refl _⟩

theorem piecesR_23 (w : World) : Calls Try.prog 56 #[.int .i64 23] w (PiecesRPost w (⟨#[115]⟩ : ByteArray)) := by
  go_enter Try.func56, Try.ntmps56
  go_wp2
  go_ret
  exact ⟨rfl, Drawn0.refl _⟩

theorem piecesR_29 (w : World) : Calls Try.prog 56 #[.int .i64 29] w (PiecesRPost w (⟨#[115]⟩ : ByteArray)) := by
  go_enter Try.func56, Try.ntmps56
  go_wp2
  go_ret
  exact ⟨rfl, Drawn0.refl _⟩

theorem piecesR_26 (w : World) : Calls Try.prog 56 #[.int .i64 26] w (PiecesRPost w (⟨#[111]⟩ : ByteArray)) := by
  go_enter Try.func56, Try.ntmps56
  go_wp2
  go_ret
  exact ⟨rfl, Drawn0.refl _⟩

theorem piecesR_27 (w : World) : Calls Try.prog 56 #[.int .i64 27] w (PiecesRPost w (⟨#[97, 116]⟩ : ByteArray)) := by
  go_enter Try.func56, Try.ntmps56
  go_wp2
  go_ret
  exact ⟨rfl, Drawn0.refl _⟩

theorem piecesR_none (n : Int) (w : World) (h : ¬ (n = 1 ∨ n = 2 ∨ n = 3 ∨ n = 4 ∨ n = 5 ∨ n = 6 ∨ n = 7 ∨ n = 8 ∨ n = 9 ∨ n = 10 ∨ n = 11 ∨ n = 12 ∨ n = 13 ∨ n = 14 ∨ n = 15 ∨ n = 16 ∨ n = 17 ∨ n = 18 ∨ n = 19 ∨ n = 21 ∨ n = 22 ∨ n = 23 ∨ n = 25 ∨ n = 26 ∨ n = 27 ∨ n = 28 ∨ n = 29 ∨ n = 30)) : Calls Try.prog 56 #[.int .i64 n] w (PiecesRPost w (⟨#[]⟩ : ByteArray)) := by
  simp only [not_or] at h
  obtain ⟨h1, h2, h3, h4, h5, h6, h7, h8, h9, h10, h11, h12, h13, h14, h15, h16, h17, h18, h19, h21, h22, h23, h25, h26, h27, h28, h29, h30⟩ := h
  have b1 : (n == 1) = false := beq_eq_false_iff_ne.mpr h1
  have b2 : (n == 2) = false := beq_eq_false_iff_ne.mpr h2
  have b3 : (n == 3) = false := beq_eq_false_iff_ne.mpr h3
  have b4 : (n == 4) = false := beq_eq_false_iff_ne.mpr h4
  have b5 : (n == 5) = false := beq_eq_false_iff_ne.mpr h5
  have b6 : (n == 6) = false := beq_eq_false_iff_ne.mpr h6
  have b7 : (n == 7) = false := beq_eq_false_iff_ne.mpr h7
  have b8 : (n == 8) = false := beq_eq_false_iff_ne.mpr h8
  have b9 : (n == 9) = false := beq_eq_false_iff_ne.mpr h9
  have b10 : (n == 10) = false := beq_eq_false_iff_ne.mpr h10
  have b11 : (n == 11) = false := beq_eq_false_iff_ne.mpr h11
  have b12 : (n == 12) = false := beq_eq_false_iff_ne.mpr h12
  have b13 : (n == 13) = false := beq_eq_false_iff_ne.mpr h13
  have b14 : (n == 14) = false := beq_eq_false_iff_ne.mpr h14
  have b15 : (n == 15) = false := beq_eq_false_iff_ne.mpr h15
  have b16 : (n == 16) = false := beq_eq_false_iff_ne.mpr h16
  have b17 : (n == 17) = false := beq_eq_false_iff_ne.mpr h17
  have b18 : (n == 18) = false := beq_eq_false_iff_ne.mpr h18
  have b19 : (n == 19) = false := beq_eq_false_iff_ne.mpr h19
  have b21 : (n == 21) = false := beq_eq_false_iff_ne.mpr h21
  have b22 : (n == 22) = false := beq_eq_false_iff_ne.mpr h22
  have b23 : (n == 23) = false := beq_eq_false_iff_ne.mpr h23
  have b25 : (n == 25) = false := beq_eq_false_iff_ne.mpr h25
  have b26 : (n == 26) = false := beq_eq_false_iff_ne.mpr h26
  have b27 : (n == 27) = false := beq_eq_false_iff_ne.mpr h27
  have b28 : (n == 28) = false := beq_eq_false_iff_ne.mpr h28
  have b29 : (n == 29) = false := beq_eq_false_iff_ne.mpr h29
  have b30 : (n == 30) = false := beq_eq_false_iff_ne.mpr h30
  clear h1 h2 h3 h4 h5 h6 h7 h8 h9 h10 h11 h12 h13 h14 h15 h16 h17 h18 h19 h21 h22 h23 h25 h26 h27 h28 h29 h30
  go_enter Try.func56, Try.ntmps56
  go_wp2
  go_ret
  exact ⟨rfl, Drawn0.refl _⟩

theorem turntableref33_Pieces.calls (a0 : Int) (r : ByteArray) (w : World) (h : turntableref33_Pieces.f a0 = some r) :
    Calls Try.prog 56 #[.int .i64 a0] w fun e w' => e = .returned (.string r) ∧ Drawn0 w w' := by
  obtain rfl := Option.some.inj h
  show Calls Try.prog 56 #[.int .i64 a0] w (PiecesRPost w (piecesS a0))
  by_cases h : a0 = 1 ∨ a0 = 2 ∨ a0 = 3 ∨ a0 = 4 ∨ a0 = 5 ∨ a0 = 6 ∨ a0 = 7 ∨ a0 = 8 ∨ a0 = 9 ∨ a0 = 10 ∨ a0 = 11 ∨ a0 = 12 ∨ a0 = 13 ∨ a0 = 14 ∨ a0 = 15 ∨ a0 = 16 ∨ a0 = 17 ∨ a0 = 18 ∨ a0 = 19 ∨ a0 = 21 ∨ a0 = 22 ∨ a0 = 23 ∨ a0 = 25 ∨ a0 = 26 ∨ a0 = 27 ∨ a0 = 28 ∨ a0 = 29 ∨ a0 = 30
  · rcases h with rfl | rfl | rfl | rfl | rfl | rfl | rfl | rfl | rfl | rfl | rfl | rfl | rfl | rfl | rfl | rfl | rfl | rfl | rfl | rfl | rfl | rfl | rfl | rfl | rfl | rfl | rfl | rfl
    · exact piecesR_1 w
    · exact piecesR_2 w
    · exact piecesR_3 w
    · exact piecesR_4 w
    · exact piecesR_5 w
    · exact piecesR_6 w
    · exact piecesR_7 w
    · exact piecesR_8 w
    · exact piecesR_9 w
    · exact piecesR_10 w
    · exact piecesR_11 w
    · exact piecesR_12 w
    · exact piecesR_13 w
    · exact piecesR_14 w
    · exact piecesR_15 w
    · exact piecesR_16 w
    · exact piecesR_17 w
    · exact piecesR_18 w
    · exact piecesR_19 w
    · exact piecesR_21 w
    · exact piecesR_22 w
    · exact piecesR_23 w
    · exact piecesR_25 w
    · exact piecesR_26 w
    · exact piecesR_27 w
    · exact piecesR_28 w
    · exact piecesR_29 w
    · exact piecesR_30 w
  · have e : piecesS a0 = (⟨#[]⟩ : ByteArray) := by
      unfold piecesS
      simp only [not_or] at h
      simp [h]
    rw [e]
    exact piecesR_none a0 w h
end Go.Proofs.Ytpjehipemljkpaa.PCo
