/- Of two numbers from nought on the one with more digits is the greater one, and of as many the one whose digits are, byte by byte; no conditions. -/
import Derived.Test.YthnkgnbemmndgaaDigLaw2
namespace Go.Proofs.Ythnkgnbemmndgaa.Pure
set_option linter.unusedSimpArgs false
open Go.RowKit Go.Proofs.Ythnkgnbemmndgaa.PDg Go.Proofs.YthnkgnbemmndgaaW.PrintWords Go.Proofs.YthnkgnbemmndgaaW.PrintLast Go.Proofs.YthnkgnbemmndgaaW.PrintMore Go.Proofs.Ythnkgnbemmndgaa.Str Go.Proofs.Ythnkgnbemmndgaa.Dig Go.Proofs.Ythnkgnbemmndgaa.DigLaw

theorem valD_from (v : Nat) : ∀ (l : List UInt8), valD v l = v * 10 ^ l.length + valD 0 l := by
  intro l
  induction l generalizing v with
  | nil => simp [valD]
  | cons c l ih =>
    rw [valD_cons, valD_cons, ih (vn v c), ih (vn 0 c)]
    unfold vn
    simp only [List.length_cons, Nat.pow_succ]
    rw [Nat.add_mul, Nat.zero_mul, Nat.zero_add, Nat.mul_assoc v 10, Nat.mul_comm 10]
    omega
theorem valD_lt : ∀ (l : List UInt8), l.all isD = true → valD 0 l < 10 ^ l.length := by
  intro l
  induction l with
  | nil => intro _; simp [valD]
  | cons c l ih =>
    intro h
    rw [List.all_cons, Bool.and_eq_true] at h
    obtain ⟨h1, h2⟩ := (isD_iff c).1 h.1
    have := ih h.2
    rw [valD_cons, valD_from]
    unfold vn
    simp only [List.length_cons, Nat.pow_succ]
    have h3 : (0 * 10 + (c.toNat - 48)) * 10 ^ l.length ≤ 9 * 10 ^ l.length := Nat.mul_le_mul_right _ (by omega)
    omega
theorem less_iff : ∀ (s t : List UInt8), s.length = t.length → s.all isD = true → t.all isD = true → (Op.bytesLess s t = decide (valD 0 s < valD 0 t)) := by
  intro s
  induction s with
  | nil =>
    intro t hl _ _
    have : t = [] := List.length_eq_zero_iff.1 hl.symm
    subst this
    simp [Op.bytesLess, valD]
  | cons a s ih =>
    intro t hl hs ht
    cases t with
    | nil => simp at hl
    | cons b t =>
      rw [List.all_cons, Bool.and_eq_true] at hs ht
      obtain ⟨a1, a2⟩ := (isD_iff a).1 hs.1
      obtain ⟨b1, b2⟩ := (isD_iff b).1 ht.1
      have hl2 : s.length = t.length := by simpa using hl
      have hi := ih t hl2 hs.2 ht.2
      have l1 := valD_lt s hs.2
      have l2 := valD_lt t ht.2
      rw [valD_cons, valD_cons, valD_from (vn 0 a), valD_from (vn 0 b)]
      unfold vn
      rw [hl2] at l1 ⊢
      simp only [Op.bytesLess, hi, Nat.zero_mul, Nat.zero_add]
      by_cases hab : a < b
      · have h3 : a.toNat < b.toNat := UInt8.lt_iff_toNat_lt.1 hab
        have h4 : (a.toNat - 48 + 1) * 10 ^ t.length ≤ (b.toNat - 48) * 10 ^ t.length := Nat.mul_le_mul_right _ (by omega)
        rw [Nat.add_mul, Nat.one_mul] at h4
        have h5 : (a.toNat - 48) * 10 ^ t.length + valD 0 s < (b.toNat - 48) * 10 ^ t.length + valD 0 t := by omega
        simp [hab, h5]
      · by_cases hba : a = b
        · subst hba
          simp
        · have h3 : b.toNat < a.toNat := by
            have h6 : ¬ a.toNat < b.toNat := fun h => hab (UInt8.lt_iff_toNat_lt.2 h)
            have h7 : a.toNat ≠ b.toNat := fun h => hba (UInt8.toNat_inj.1 h)
            omega
          have h4 : (b.toNat - 48 + 1) * 10 ^ t.length ≤ (a.toNat - 48) * 10 ^ t.length := Nat.mul_le_mul_right _ (by omega)
          rw [Nat.add_mul, Nat.one_mul] at h4
          have h5 : ¬ (a.toNat - 48) * 10 ^ t.length + valD 0 s < (b.toNat - 48) * 10 ^ t.length + valD 0 t := by omega
          simp [hab, hba, h5]

theorem digs_isD (a : Int) (h : 0 ≤ a) : (digs a).all isD = true := by
  unfold digs
  split
  · decide
  · rw [if_neg (by omega)]; exact pd_isD _
theorem digs_val (a : Int) (h : 0 ≤ a) : valD 0 (digs a) = a.toNat := by
  unfold digs
  split
  · rename_i h0; subst h0; decide +kernel
  · rw [if_neg (by omega), valD_pd]; omega
theorem digs_low (a : Int) (h : 0 ≤ a) (hz : a ≠ 0) : 10 ^ ((digs a).length - 1) ≤ a.toNat := by
  unfold digs
  rw [if_neg hz, if_neg (by omega)]
  have e : a.natAbs = a.toNat := by omega
  rw [e]
  have hn : a.toNat ≠ 0 := by omega
  clear e h hz
  generalize a.toNat = n at *
  induction n using Nat.strongRecOn with
  | _ n ih =>
    rw [pd_pos hn]
    by_cases h2 : n / 10 = 0
    · rw [h2, pd_zero]; simp; omega
    · have := ih (n / 10) (by omega) h2
      have hne := pd_ne_nil h2
      have hl : 1 ≤ (pd (n / 10)).length := List.length_pos_iff.2 hne
      rw [List.length_append, List.length_singleton]
      have e : (pd (n / 10)).length + 1 - 1 = ((pd (n / 10)).length - 1) + 1 := by omega
      rw [e, Nat.pow_succ]
      omega
theorem digs_short (a b : Int) (ha : 0 ≤ a) (hb : 0 ≤ b) (h : (digs a).length < (digs b).length) : a < b := by
  by_cases hz : b = 0
  · subst hz
    have : digs 0 = [48] := rfl
    rw [this] at h
    have h2 : (digs a).length = 0 := by simpa using h
    have h3 := List.length_eq_zero_iff.1 h2
    unfold digs at h3
    split at h3
    · cases h3
    · rw [if_neg (by omega)] at h3
      exact absurd h3 (pd_ne_nil (by omega))
  · have h1 := digs_low b hb hz
    have h2 := valD_lt _ (digs_isD a ha)
    rw [digs_val a ha] at h2
    have h3 : 10 ^ (digs a).length ≤ 10 ^ ((digs b).length - 1) := Nat.pow_le_pow_right (by omega) (by omega)
    omega

theorem DigitsOrder : turntablelaw01_DigitsOrder.Pure := by
  intro a b ha hb
  obtain ⟨a0, a1⟩ := i64_bounds ha
  obtain ⟨b0, b1⟩ := i64_bounds hb
  refine Ev.rounds ?_
  unfold turntablelaw01_DigitsOrder.f
  refine ev_if (fun h => Ev.step (f := fun k => (turntablelaw01_works.f k).bind fun t152 => (some t152)) (fun k => by simp [turntablelaw01_DigitsOrder.j0]) (Ev.bind works_ev (Ev.now _))) (fun h => ?_)
  by_cases h2 : b < 0
  · rw [decide_eq_true h2]
    exact Ev.step (f := fun k => (turntablelaw01_works.f k).bind fun t152 => (some t152)) (fun k => by simp [turntablelaw01_DigitsOrder.j0]) (Ev.bind works_ev (Ev.now _))
  · rw [decide_eq_false h2]
    refine Ev.step (f := fun k => (turntablelaw01_works.f k).bind fun t152 => (some t152)) (fun k => ?_) (Ev.bind works_ev (Ev.now _))
    simp only [turntablelaw01_DigitsOrder.j0, Bool.false_eq_true, if_false, print_some a a0 a1, print_some b b0 b1, Option.bind_some, mk_size, mk_toList]
    by_cases hl : ((digs a).length : Int) < ((digs b).length : Int)
    · have hlt := digs_short a b (by omega) (by omega) (by omega)
      rw [if_pos hl, if_pos (by simp [hlt])]
    · rw [if_neg hl]
      by_cases he : ((digs a).length : Int) = ((digs b).length : Int)
      · rw [if_pos he, less_iff _ _ (by omega) (digs_isD a (by omega)) (digs_isD b (by omega)), digs_val a (by omega), digs_val b (by omega)]
        have e : decide (a.toNat < b.toNat) = decide (a < b) := by
          by_cases hab : a < b
          · rw [decide_eq_true hab, decide_eq_true (by omega)]
          · rw [decide_eq_false hab, decide_eq_false (by omega)]
        rw [e, if_pos (by simp)]
      · have hlt := digs_short b a (by omega) (by omega) (by omega)
        have hn : ¬ a < b := by omega
        rw [if_neg he, if_pos (by simp [hn])]

end Go.Proofs.Ythnkgnbemmndgaa.Pure
