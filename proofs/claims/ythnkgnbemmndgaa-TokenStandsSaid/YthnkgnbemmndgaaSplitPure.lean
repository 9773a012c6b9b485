/- The words of a text, byte by byte: the plain function that the program's token.Split computes. No program here. -/
import Derived.Test.YthnkgnbemmndgaaPTkx0
import Derived.Test.YthnkgnbemmndgaaStr
import Derived.Laws.RangeAny
namespace Go.Proofs.Ythnkgnbemmndgaa.PTk
open Go.RowKit Go.Proofs.YthnkgnbemmndgaaW.PrintWords Go.Proofs.YthnkgnbemmndgaaW.PrintLast Go.Proofs.YthnkgnbemmndgaaW.PrintMore Go.Proofs.Ythnkgnbemmndgaa.Str
set_option linter.unusedVariables false
set_option linter.unusedSimpArgs false

abbrev Tok := S46

/-- What a letter is: 0 a blank, 1 a sign, 2 part of a word, 3 a note's begin, 4 another one. -/
def kindR (c : Int) : Int :=
  if c = 32 ∨ c = 9 ∨ c = 10 ∨ c = 13 then 0
  else if c = 40 ∨ c = 41 ∨ c = 123 ∨ c = 125 ∨ c = 61 ∨ c = 58 then 1
  else if (97 ≤ c ∧ c ≤ 122) ∨ (65 ≤ c ∧ c ≤ 90) ∨ (48 ≤ c ∧ c ≤ 57) then 2
  else if c = 46 ∨ c = 37 ∨ c = 64 ∨ c = 45 ∨ c = 95 then 2
  else if c = 35 then 3 else 4

/-- The words behind the end of an open word at byte i. -/
def closeW (s : ByteArray) (fr : Int) (i : Nat) (out : List Tok) : List Tok := if fr < 0 then out else out ++ [⟨s.extract fr.toNat i, fr⟩]

/-- From byte i on: where the open word begins (below 0: none is open), whether a note goes on, the words till now. -/
def splitGo (s : ByteArray) : List UInt8 → Nat → Int → Bool → List Tok → List Tok × Int × Int
  | [], i, fr, _, out => (closeW s fr i out, 0, 0)
  | c :: l, i, fr, noted, out =>
    if noted = true then splitGo s l (i + 1) fr ((c.toNat : Int) != 10) out
    else if kindR c.toNat = 0 then splitGo s l (i + 1) (-1) false (closeW s fr i out)
    else if kindR c.toNat = 1 then splitGo s l (i + 1) (-1) false (closeW s fr i out ++ [⟨mk [c], i⟩])
    else if kindR c.toNat = 2 then splitGo s l (i + 1) (if fr < 0 then i else fr) false out
    else if kindR c.toNat = 3 then splitGo s l (i + 1) (-1) true (closeW s fr i out)
    else ([], 1, i)

def splitL (s : ByteArray) : List Tok × Int × Int := if 65536 < s.size then ([], 6, 65536) else splitGo s s.data.toList 0 (-1) false []

def token_Split.f (a0 : ByteArray) : Option (List Tok × Int × Int) := some (splitL a0)

theorem kind_high (c : Int) (h : 128 ≤ c) : kindR c = 4 := by
  unfold kindR
  rw [if_neg (by omega), if_neg (by omega), if_neg (by omega), if_neg (by omega), if_neg (by omega)]

theorem splitGo_note (s : ByteArray) (i : Nat) (fr : Int) (out : List Tok) : ∀ (n : Nat) (l : List UInt8), n ≤ l.length → (∀ j, (h : j < l.length) → j < n → (l[j]).toNat ≠ 10) → splitGo s l i fr true out = splitGo s (l.drop n) (i + n) fr true out := by
  intro n
  induction n generalizing i with
  | zero => intro l _ _; rfl
  | succ n ih =>
    intro l hl h
    cases l with
    | nil => simp at hl
    | cons c l =>
      have h0 := h 0 (by simp) (by omega)
      simp only [List.getElem_cons_zero] at h0
      have hb : ((c.toNat : Int) != 10) = true := by rw [bne_iff_ne]; omega
      rw [splitGo, if_pos rfl, hb, ih (i + 1) l (by simpa using hl) (fun j hj hjn => by have h9 := h (j + 1) (by simpa using hj) (by omega); rw [List.getElem_cons_succ] at h9; exact h9), List.drop_succ_cons]
      congr 1
      omega

theorem get_bang (s : ByteArray) (i : Nat) (h : i < s.size) : s.get! i = s.data.toList[i]'h := by
  have h2 : i < s.data.size := h
  simp [ByteArray.get!, getElem!_pos s.data i h2]

/-- The bytes that one letter beyond ASCII takes: all of them beyond ASCII, and all in the text. -/
theorem decode_bytes (s : ByteArray) (p : Nat) (h : p < s.size) (hh : 128 ≤ (s.get! p).toNat) :
    1 ≤ (Utf8.decode s p).2 ∧ p + (Utf8.decode s p).2 ≤ s.size ∧ ∀ j, j < (Utf8.decode s p).2 → 128 ≤ (s.get! (p + j)).toNat := by
  have hn : ¬ (s.get! p).toNat < 128 := by omega
  have key : ∀ (n : Nat), (n = 1 ∨ (n = 2 ∧ p + 1 < s.size ∧ (s.get! (p + 1)).toNat / 64 = 2) ∨ (n = 3 ∧ (p + 1 < s.size ∧ (s.get! (p + 1)).toNat / 64 = 2) ∧ (p + 2 < s.size ∧ (s.get! (p + 2)).toNat / 64 = 2)) ∨ (n = 4 ∧ (p + 1 < s.size ∧ (s.get! (p + 1)).toNat / 64 = 2) ∧ (p + 2 < s.size ∧ (s.get! (p + 2)).toNat / 64 = 2) ∧ (p + 3 < s.size ∧ (s.get! (p + 3)).toNat / 64 = 2))) →
      1 ≤ n ∧ p + n ≤ s.size ∧ ∀ j, j < n → 128 ≤ (s.get! (p + j)).toNat := by
    intro n hc
    refine ⟨by omega, by omega, fun j hj => ?_⟩
    have hj4 : j = 0 ∨ j = 1 ∨ j = 2 ∨ j = 3 := by omega
    rcases hj4 with rfl | rfl | rfl | rfl
    · exact hh
    · omega
    · omega
    · omega
  apply key
  simp only [Utf8.decode, Nat.add_zero, if_neg hn]
  repeat' split
  all_goals simp_all

theorem at_pos (s : ByteArray) (p : Nat) (h : p < s.size) : (s[p]'h) = s.data.toList[p]'h := by
  simp [ByteArray.getElem_eq_getElem_data]

theorem split_drop (s : ByteArray) (p : Nat) (h : p < s.size) : s.data.toList.drop p = (s.data.toList[p]'h) :: s.data.toList.drop (p + 1) := List.drop_eq_getElem_cons h

/-- What one letter's reading tells. -/
theorem rune_ascii (s : ByteArray) (p : Nat) (h : p < s.size) (hc : (s.data.toList[p]'h).toNat < 128) : (Utf8.decode s p).2 = 1 ∧ (Utf8.decode s p).1 = (s.data.toList[p]'h).toNat := by
  have := decode_ascii s p h (by rw [at_pos]; exact hc)
  rw [this, at_pos]
  exact ⟨rfl, rfl⟩
theorem rune_high (s : ByteArray) (p : Nat) (h : p < s.size) (hc : 128 ≤ (s.data.toList[p]'h).toNat) : 128 ≤ (Utf8.decode s p).1 :=
  (decode_high s p h (by rw [at_pos]; exact hc)).1

theorem rune_le (s : ByteArray) (p : Nat) (h : p < s.size) : 1 ≤ (Utf8.decode s p).2 ∧ p + (Utf8.decode s p).2 ≤ s.size := by
  by_cases hc : (s.data.toList[p]'h).toNat < 128
  · rw [(rune_ascii s p h hc).1]; omega
  · have := decode_bytes s p h (by rw [get_bang s p h]; omega)
    exact ⟨this.1, this.2.1⟩

theorem step_note (s : ByteArray) (p : Nat) (h : p < s.size) (fr : Int) (out : List Tok) :
    splitGo s (s.data.toList.drop p) p fr true out = splitGo s (s.data.toList.drop (p + (Utf8.decode s p).2)) (p + (Utf8.decode s p).2) fr (((Utf8.decode s p).1 : Int) != 10) out := by
  by_cases hc : (s.data.toList[p]'h).toNat < 128
  · obtain ⟨h1, h2⟩ := rune_ascii s p h hc
    rw [h1, h2, split_drop s p h, splitGo, if_pos rfl]
  · have h1 := rune_high s p h (by omega)
    obtain ⟨h2, h3, h4⟩ := decode_bytes s p h (by rw [get_bang s p h]; omega)
    have hb : (((Utf8.decode s p).1 : Int) != 10) = true := by rw [bne_iff_ne]; omega
    have hsz : s.size = s.data.toList.length := rfl
    rw [hb, splitGo_note s p fr out (Utf8.decode s p).2 (s.data.toList.drop p) (by rw [List.length_drop]; omega) (fun j hj hjn => ?_), List.drop_drop]
    have := h4 j hjn
    rw [get_bang s (p + j) (by omega)] at this
    rw [List.getElem_drop]
    omega

theorem rune_kind (s : ByteArray) (p : Nat) (h : p < s.size) (hk : kindR ((Utf8.decode s p).1 : Int) ≠ 4) : (Utf8.decode s p).2 = 1 ∧ (Utf8.decode s p).1 = (s.data.toList[p]'h).toNat := by
  by_cases hc : (s.data.toList[p]'h).toNat < 128
  · exact rune_ascii s p h hc
  · exact absurd (kind_high _ (by have := rune_high s p h (by omega); omega)) hk

theorem step_other (s : ByteArray) (p : Nat) (h : p < s.size) (fr : Int) (out : List Tok) (hk : kindR ((Utf8.decode s p).1 : Int) = 4) : splitGo s (s.data.toList.drop p) p fr false out = (([], 1, (p : Int)) : List Tok × Int × Int) := by
  have hc : kindR ((s.data.toList[p]'h).toNat : Int) = 4 := by
    by_cases hc : (s.data.toList[p]'h).toNat < 128
    · rw [(rune_ascii s p h hc).2] at hk; exact hk
    · exact kind_high _ (by omega)
  rw [split_drop s p h, splitGo, if_neg (by simp), hc]
  simp

theorem kindR_cases (c : Int) : kindR c = 0 ∨ kindR c = 1 ∨ kindR c = 2 ∨ kindR c = 3 ∨ kindR c = 4 := by
  unfold kindR
  repeat' split
  all_goals simp

theorem closeW_len (s : ByteArray) (fr : Int) (i : Nat) (out : List Tok) : (closeW s fr i out).length ≤ out.length + (if fr < 0 then 0 else 1) := by
  unfold closeW
  split <;> simp
end Go.Proofs.Ythnkgnbemmndgaa.PTk
