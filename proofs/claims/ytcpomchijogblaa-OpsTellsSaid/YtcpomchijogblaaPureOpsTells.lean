/- What any operation takes, makes, and does beside, and its word, is what the reference tells. -/
import Derived.Test.YtcpomchijogblaaSaidOpsTells
import Derived.Test.YtcpomchijogblaaPureOpsFinds
import Derived.Test.YtcpomchijogblaaPureOpsBack
namespace Go.Proofs.Ytcpomchijogblaa.Pure
open Go.RowKit Go.Proofs.Ytcpomchijogblaa.POp Go.Proofs.Ytcpomchijogblaa.OpsTellsSaid Go.Proofs.YtcpomchijogblaaW.PrintWords Go.Proofs.YtcpomchijogblaaW.PrintLast Go.Proofs.YtcpomchijogblaaW.PrintMore Go.Proofs.Ytcpomchijogblaa.Str
set_option linter.unusedSimpArgs false
set_option linter.unusedVariables false

theorem tells_few : ∀ n : Nat, n < 30 → turntablelaw05_OpsTells.j0 41 (n : Int) false = some true := by decide +kernel

theorem in_l0 (a : Int) : ∀ (rest pre : List Int) (k : Nat), (pre ++ rest).length ≤ 100 → (∀ x ∈ rest, x ≠ a) → rest.length < k → turntableref05_in.l0 k a (pre ++ rest) (pre.length : Int) = some false := by
  intro rest
  induction rest with
  | nil =>
    intro pre k _ _ hk
    cases k with
    | zero => omega
    | succ k => simp only [turntableref05_in.l0]; rw [if_neg (by simp)]
  | cons c rest ih =>
    intro pre k hl hx hk
    cases k with
    | zero => omega
    | succ k =>
      have hrd : rd (pre ++ c :: rest) (pre.length : Int) = c := by unfold rd; simp
      have hw : wrap64 ((pre.length : Int) + 1) = ((pre ++ [c]).length : Int) := by
        rw [w64 (by omega) (by simp at hl; omega)]; simp
      have hp : pre ++ c :: rest = (pre ++ [c]) ++ rest := by simp
      simp only [turntableref05_in.l0]
      rw [if_pos (by simp; omega), if_pos (by omega), hrd, if_neg (hx c (by simp)), hw, hp]
      exact ih (pre ++ [c]) k (by rw [← hp]; exact hl) (fun x h => hx x (by simp [h])) (by simp at hk; omega)

theorem in_no (a : Int) (l : List Int) (k : Nat) (hl : l.length ≤ 100) (hx : ∀ x ∈ l, x ≠ a) (hk : l.length < k) : turntableref05_in.f k a l = some false := in_l0 a l [] k hl hx hk

theorem tells_none {a : Int} (h : a < 1 ∨ 29 < a) : turntablelaw05_OpsTells.j0 41 a false = some true := by
  have h1 := op_none h
  have ne : ∀ c : Int, 1 ≤ c → c ≤ 29 → c ≠ a := by omega
  have b : ∀ c : Int, 1 ≤ c → c ≤ 29 → (a == c) = false := fun c _ _ => beq_eq_false_iff_ne.mpr (by omega)
  have ht : turntableref05_Takes.f 40 a = some [] := by
    unfold turntableref05_Takes.f
    have e : ∀ q : Bool, q = false → turntableref05_Takes.j0 40 a q = some [] := by
      rintro q rfl
      simp [turntableref05_Takes.j0, turntableref05_Takes.j1, turntableref05_Takes.j2, turntableref05_Takes.j3, b, (ne 9 (by omega) (by omega)).symm, (ne 11 (by omega) (by omega)).symm, (ne 12 (by omega) (by omega)).symm, (ne 15 (by omega) (by omega)).symm, (ne 13 (by omega) (by omega)).symm, (ne 16 (by omega) (by omega)).symm, (ne 18 (by omega) (by omega)).symm, (ne 19 (by omega) (by omega)).symm, (ne 22 (by omega) (by omega)).symm, (ne 27 (by omega) (by omega)).symm]
    by_cases g : a ≥ 2
    · rw [if_pos g]; exact e _ (decide_eq_false (by omega))
    · rw [if_neg g]; exact e _ rfl
  have hts : ops_Takes.f a = some [] := by
    unfold ops_Takes.f opOf; rw [if_pos h]; rfl
  have hin : ∀ (l : List Int) (k : Nat), l.length < k → l.length ≤ 100 → (∀ x ∈ l, 1 ≤ x ∧ x ≤ 29) → turntableref05_in.f k a l = some false := fun l k h2 h3 h4 => in_no a l k h3 (fun x hx => ne x (h4 x hx).1 (h4 x hx).2) h2
  have hT : turntableref05_Traps.f 40 a = some false := by unfold turntableref05_Traps.f; rw [hin _ _ (by decide) (by decide) (by decide)]; rfl
  have hR : turntableref05_Reads.f 40 a = some false := by unfold turntableref05_Reads.f; rw [hin _ _ (by decide) (by decide) (by decide)]; rfl
  have hW : ∀ k, 6 ≤ k → turntableref05_Writes.f k a = some false := fun k hk => by unfold turntableref05_Writes.f; rw [hin _ _ (by simp; omega) (by decide) (by decide)]; rfl
  have hP : turntableref05_Pure.f 39 a = some false := by unfold turntableref05_Pure.f; rw [hin _ _ (by decide) (by decide) (by decide)]; rfl
  have hE : turntableref05_Ends.f a = some false := by
    unfold turntableref05_Ends.f
    by_cases g : a ≥ 26
    · rw [if_pos g, decide_eq_false (by omega)]
    · rw [if_neg g]
  have hS : turntableref05_Seen.f 39 a = some false := by
    unfold turntableref05_Seen.f
    rw [hW 39 (by omega)]
    simp [hE, (ne 22 (by omega) (by omega)).symm, (ne 23 (by omega) (by omega)).symm, b]
  have hF : turntableref05_Safe.f a = some false := by
    unfold turntableref05_Safe.f
    rw [if_neg (ne 23 (by omega) (by omega)).symm, b 21 (by omega) (by omega)]
  have hF2 : ops_Safe.f a = some false := hF
  have hI : turntableref05_Ints.f 40 [] [] = some true := by decide +kernel
  simp only [turntablelaw05_OpsTells.j0, turntablelaw05_OpsTells.j1, ops_Traps.f, ops_Reads.f, ops_Writes.f, ops_Seen.f, ops_Ends.f, ops_Pure.f, h1, ht, hts, hT, hR, hW 40 (by omega), hP, hE, hS, hF, hF2, hI, Option.bind_some]
  simp [turntablelaw05_OpsTells.j1, ops_Traps.f, ops_Reads.f, ops_Writes.f, ops_Seen.f, ops_Ends.f, ops_Pure.f, h1, hP, hE, hS, hF, hF2, op_works]

theorem j0_any (a : Int) : turntablelaw05_OpsTells.j0 41 a false = some true := by
  by_cases h : a < 1 ∨ 29 < a
  · exact tells_none h
  · obtain ⟨n, rfl⟩ : ∃ n : Nat, a = n := ⟨a.toNat, by omega⟩
    exact tells_few n (by omega)

theorem typed_any (a : Int) : ∃ b, ops_typed.f a = some b ∧ turntableref05_typed.f a = some b := by
  have e : turntableref05_typed.f a = ops_typed.f a := rfl
  rw [e]
  unfold ops_typed.f
  repeat' split
  all_goals exact ⟨_, rfl, rfl⟩

theorem letter_any (t : Int) : ∃ b, ops_Letter.f t = some b ∧ turntableref05_Letter.f t = some b ∧ b.size = 1 := by
  have e : turntableref05_Letter.f t = ops_Letter.f t := rfl
  rw [e]
  unfold ops_Letter.f
  repeat' split
  all_goals exact ⟨_, rfl, rfl, rfl⟩

theorem word_few : ∀ n : Nat, n < 30 → turntableref05_word.f (n : Int) = some (opOf (n : Int)).w ∧ (opOf (n : Int)).w.size ≤ 10 := by decide +kernel

theorem word_any (a : Int) : turntableref05_word.f a = some (opOf a).w ∧ (opOf a).w.size ≤ 10 := by
  by_cases h : a < 1 ∨ 29 < a
  · have e : opOf a = noRow := if_pos h
    rw [e]
    refine ⟨?_, by decide⟩
    unfold turntableref05_word.f
    rw [Option.bind_some]
    by_cases h1 : a < 1
    · rw [if_pos h1]; rfl
    · rw [if_neg h1, if_pos (by omega)]; rfl
  · obtain ⟨n, rfl⟩ : ∃ n : Nat, a = n := ⟨a.toNat, by omega⟩
    exact word_few n (by omega)

theorem of_any (a : Int) : ops_of.f a = some ((opOf a).w, (opOf a).t0, (opOf a).t1, (opOf a).m, (opOf a).traps, (opOf a).reads, (opOf a).writes, (opOf a).seen, (opOf a).ends) := rfl

theorem word_same (a i n t : Int) (l m : List Int) (s : ByteArray) (z : Int) : ∃ b c, ops_Word.f a i n t l m s z = some b ∧ turntableref05_Word.f a i n t l m s z = some c ∧ b.toList = c.toList := by
  obtain ⟨b, h1, h2⟩ := typed_any a
  obtain ⟨L, h3, h4, h5⟩ := letter_any t
  obtain ⟨h6, h7⟩ := word_any a
  have e1 : (⟨#[46]⟩ : ByteArray).size = 1 := rfl
  have s1 : ((⟨#[46]⟩ : ByteArray) ++ L).size = 2 := by rw [ByteArray.size_append, e1, h5]
  have s2 : ((opOf a).w ++ (⟨#[46]⟩ : ByteArray)).size = (opOf a).w.size + 1 := by rw [ByteArray.size_append, e1]
  cases b with
  | true =>
    refine ⟨(opOf a).w ++ ((⟨#[46]⟩ : ByteArray) ++ L), ((opOf a).w ++ (⟨#[46]⟩ : ByteArray)) ++ L, ?_, ?_, ?_⟩
    · unfold ops_Word.f
      rw [of_any]
      simp only [Option.bind_some, h1, h3, if_true]
      rw [if_pos (by omega), if_pos (by omega)]
    · unfold turntableref05_Word.f
      simp only [Option.bind_some, h2, h4, h6, if_true]
      rw [if_pos (by omega), if_pos (by omega)]
    · rw [toList_eq, toList_eq]; simp
  | false =>
    refine ⟨(opOf a).w, (opOf a).w, ?_, ?_, rfl⟩
    · unfold ops_Word.f
      rw [of_any]
      simp [h1]
    · unfold turntableref05_Word.f
      simp [h2, h6]

theorem makes_few : ∀ n : Nat, n < 30 → ∀ b : Bool, turntableref05_typed.f (n : Int) = some b → b = true ∨ turntableref05_Makes.f 41 (n : Int) 0 0 0 [] [] (⟨#[]⟩ : ByteArray) 0 = some (opOf (n : Int)).m := by decide +kernel

theorem makes_same (a i n t : Int) (l m : List Int) (s : ByteArray) (z : Int) : ∃ b, ops_Makes.f a i n t l m s z = some b ∧ turntableref05_Makes.f 41 a i n t l m s z = some b := by
  obtain ⟨b, h1, h2⟩ := typed_any a
  cases b with
  | true => exact ⟨t, by simp [ops_Makes.f, h1], by simp [turntableref05_Makes.f, h2]⟩
  | false =>
    refine ⟨(opOf a).m, by simp [ops_Makes.f, h1, of_any], ?_⟩
    by_cases h : a < 1 ∨ 29 < a
    · have e : opOf a = noRow := if_pos h
      have b : ∀ c : Int, 1 ≤ c → c ≤ 29 → (a == c) = false := fun c _ _ => beq_eq_false_iff_ne.mpr (by omega)
      have ne : ∀ c : Int, 1 ≤ c → c ≤ 29 → ¬ a = c := by omega
      rw [e]
      simp [turntableref05_Makes.f, h2, turntableref05_Makes.j0, turntableref05_Makes.j1, b, ne 1 (by omega) (by omega), ne 2 (by omega) (by omega), ne 3 (by omega) (by omega), ne 4 (by omega) (by omega), ne 5 (by omega) (by omega), ne 6 (by omega) (by omega), ne 7 (by omega) (by omega), ne 9 (by omega) (by omega), ne 11 (by omega) (by omega), ne 8 (by omega) (by omega), ne 10 (by omega) (by omega), ne 12 (by omega) (by omega), ne 15 (by omega) (by omega), noRow]
    · obtain ⟨q, rfl⟩ : ∃ q : Nat, a = q := ⟨a.toNat, by omega⟩
      rcases makes_few q (by omega) false h2 with h8 | h8
      · cases h8
      · rw [← h8]
        unfold turntableref05_Makes.f
        rw [h2]
        rfl

theorem may_same (a t : Int) : ∃ b, ops_May.f a t = some b ∧ turntableref05_May.f a t = some b := by
  by_cases ht : t < 0 ∨ 3 < t
  · refine ⟨false, ?_, may_none ht⟩
    have e0 : (t == 0) = false := beq_eq_false_iff_ne.mpr (by omega)
    have e2 : (t == 2) = false := beq_eq_false_iff_ne.mpr (by omega)
    have e3 : (t == 3) = false := beq_eq_false_iff_ne.mpr (by omega)
    unfold ops_May.f
    rw [e0, e2, e3, if_neg (show ¬ t = 1 by omega), if_neg (show ¬ t = 2 by omega), if_neg (show ¬ t = 0 by omega), if_neg (show ¬ t = 1 by omega)]
    repeat' split
    all_goals rfl
  · have h4 : t = 0 ∨ t = 1 ∨ t = 2 ∨ t = 3 := by omega
    unfold ops_May.f turntableref05_May.f
    by_cases h1 : a = 20
    · subst h1; rcases h4 with rfl | rfl | rfl | rfl <;> exact ⟨_, rfl, rfl⟩
    · by_cases h2 : a = 21
      · subst h2; rcases h4 with rfl | rfl | rfl | rfl <;> exact ⟨_, rfl, rfl⟩
      · by_cases h3 : a = 24
        · subst h3; rcases h4 with rfl | rfl | rfl | rfl <;> exact ⟨_, rfl, rfl⟩
        · simp only [if_neg h1, if_neg h2, if_neg h3]
          exact ⟨_, rfl, rfl⟩

theorem OpsTells : OpsTells.Good := by
  intro a0 a1 _ _
  refine ⟨41, ?_⟩
  obtain ⟨w1, w2, hw1, hw2, hw3⟩ := word_same a0.f0 a0.f1 a0.f2 a0.f3 a0.f4 a0.f5 a0.f6 a0.f7
  obtain ⟨m, hm1, hm2⟩ := makes_same a0.f0 a0.f1 a0.f2 a0.f3 a0.f4 a0.f5 a0.f6 a0.f7
  obtain ⟨L, hl1, hl2, _⟩ := letter_any a1
  obtain ⟨y, hy1, hy2⟩ := may_same a0.f0 a1
  unfold turntablelaw05_OpsTells.f
  simp only [hw1, hw2, hw3, hm1, hm2, hl1, hl2, hy1, hy2, Option.bind_some, if_true]
  have : (y != y) = false := by simp
  rw [this]
  exact j0_any a0.f0
end Go.Proofs.Ytcpomchijogblaa.Pure
