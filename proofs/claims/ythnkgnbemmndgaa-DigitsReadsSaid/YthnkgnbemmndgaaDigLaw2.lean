/- Digits there and back, and in order; the reference's Print and Parse: told by plain functions on lists of bytes. -/
import Derived.Test.YthnkgnbemmndgaaDigLaw
namespace Go.Proofs.Ythnkgnbemmndgaa.DigLaw
set_option linter.unusedSimpArgs false
open Go.RowKit Go.Proofs.YthnkgnbemmndgaaW.PrintWords Go.Proofs.YthnkgnbemmndgaaW.PrintLast Go.Proofs.YthnkgnbemmndgaaW.PrintMore Go.Proofs.Ythnkgnbemmndgaa.Str Go.Proofs.Ythnkgnbemmndgaa.Dig Go.Proofs.Ythnkgnbemmndgaa.PDg

/-! ### pd and valD -/
theorem head_app {l : List UInt8} (m : List UInt8) (h : l ≠ []) : (l ++ m).head? = l.head? := by
  cases l with
  | nil => exact absurd rfl h
  | cons => rfl
theorem dig_nat (d : Nat) (h : d < 10) : (UInt8.ofNat (48 + d)).toNat = 48 + d := by
  rw [UInt8.toNat_ofNat']; omega
theorem pd_isD (n : Nat) : (pd n).all isD = true := by
  induction n using Nat.strongRecOn with
  | _ n ih =>
    by_cases h : n = 0
    · subst h; rw [pd_zero]; rfl
    · rw [pd_pos h, List.all_append, ih (n / 10) (by omega)]
      have : isD (UInt8.ofNat (48 + n % 10)) = true := by
        rw [isD_iff, dig_nat _ (Nat.mod_lt _ (by omega))]; omega
      rw [List.all_cons, this]; rfl
theorem valD_pd (n : Nat) : valD 0 (pd n) = n := by
  induction n using Nat.strongRecOn with
  | _ n ih =>
    by_cases h : n = 0
    · subst h; rw [pd_zero]; rfl
    · rw [pd_pos h, valD_append, ih (n / 10) (by omega)]
      show vn (n / 10) _ = n
      unfold vn
      rw [dig_nat _ (Nat.mod_lt _ (by omega))]
      omega
theorem pd_head (n : Nat) : (pd n).head? ≠ some 48 := by
  induction n using Nat.strongRecOn with
  | _ n ih =>
    by_cases h : n = 0
    · subst h; rw [pd_zero]; simp
    · rw [pd_pos h]
      by_cases h2 : n / 10 = 0
      · rw [h2, pd_zero]
        intro hh
        have h3 : UInt8.ofNat (48 + n % 10) = 48 := by simpa using hh
        have h4 := congrArg UInt8.toNat h3
        rw [dig_nat _ (Nat.mod_lt _ (by omega))] at h4
        have : (48 : UInt8).toNat = 48 := rfl
        omega
      · rw [head_app _ (pd_ne_nil h2)]
        exact ih (n / 10) (by omega)

theorem isD_of (c : UInt8) (h : isD c = true) : c = UInt8.ofNat (48 + (c.toNat - 48)) := by
  obtain ⟨h1, h2⟩ := (isD_iff c).1 h
  apply UInt8.toNat_inj.1
  rw [dig_nat _ (by omega)]
  omega

theorem pd_valD : ∀ (m : Nat) (t : List UInt8), t.length = m → t.all isD = true → t.head? ≠ some 48 → pd (valD 0 t) = t := by
  intro m
  induction m with
  | zero => intro t hl _ _; rw [List.length_eq_zero_iff.1 hl]; exact pd_zero
  | succ m ih =>
    intro t hl hd hh
    obtain ⟨t', c, rfl⟩ : ∃ t' c, t = t' ++ [c] := by
      rcases List.eq_nil_or_concat t with h | ⟨t', c, h⟩
      · subst h; simp at hl
      · exact ⟨t', c, by simpa using h⟩
    simp only [List.length_append, List.length_singleton] at hl
    rw [List.all_append, Bool.and_eq_true] at hd
    have hc : isD c = true := by simpa using hd.2
    obtain ⟨h1, h2⟩ := (isD_iff c).1 hc
    have hv : valD 0 (t' ++ [c]) = valD 0 t' * 10 + (c.toNat - 48) := by rw [valD_append]; rfl
    rcases List.eq_nil_or_concat t' with h | ⟨t2, c2, h⟩
    · subst h
      have hne : c.toNat ≠ 48 := by
        intro h
        apply hh
        have : c = 48 := UInt8.toNat_inj.1 (by rw [h]; rfl)
        simp [this]
      rw [hv]
      have h0 : valD 0 ([] : List UInt8) = 0 := rfl
      rw [h0, pd_pos (by omega)]
      have e1 : (0 * 10 + (c.toNat - 48)) / 10 = 0 := by omega
      have e2 : (0 * 10 + (c.toNat - 48)) % 10 = c.toNat - 48 := by omega
      rw [e1, e2, pd_zero, ← isD_of c hc]
    · have hne : t' ≠ [] := by rw [h]; simp
      have ih' := ih t' (by omega) hd.1 (by rwa [head_app _ hne] at hh)
      have hv0 : valD 0 t' ≠ 0 := by
        intro h0
        rw [h0, pd_zero] at ih'
        exact hne ih'.symm
      rw [hv, pd_pos (by omega)]
      have e1 : (valD 0 t' * 10 + (c.toNat - 48)) / 10 = valD 0 t' := by omega
      have e2 : (valD 0 t' * 10 + (c.toNat - 48)) % 10 = c.toNat - 48 := by omega
      rw [e1, e2, ih', ← isD_of c hc]

theorem pd_no45 (n : Nat) : (pd n).head? ≠ some 45 := by
  intro h
  have h1 := pd_isD n
  cases hp : pd n with
  | nil => rw [hp] at h; simp at h
  | cons c t =>
    rw [hp] at h h1
    have : c = 45 := by simpa using h
    subst this
    simp [isD] at h1

theorem bad_pd (low : Bool) (n : Nat) (h : n ≠ 0) : badD low (pd n) = false := by
  have h1 := pd_ne_nil h
  have h2 := pd_head n
  have h3 : pd n ≠ [48] := fun e => h2 (by rw [e]; rfl)
  unfold badD
  have e1 : (pd n).isEmpty = false := by simpa using h1
  have e2 : ((pd n).head? == some 48) = false := by simpa using h2
  have e3 : (pd n == [48]) = false := by simpa using h3
  rw [e1, e2, e3]
  simp

/-- There. -/
theorem parse_digs (n : Int) (h0 : -9223372036854775808 ≤ n) (h1 : n ≤ 9223372036854775807) : parseL (digs n) = (n, 0) := by
  unfold digs
  by_cases hz : n = 0
  · subst hz; rfl
  · rw [if_neg hz]
    by_cases hn : n < 0
    · rw [if_pos hn]
      unfold parseL
      rw [if_pos (by rfl), List.tail_cons]
      unfold parseT
      rw [if_neg (by rw [bad_pd _ _ (by omega)]; simp)]
      unfold finish fin
      rw [if_pos (pd_isD _), valD_pd, if_neg (by rintro (e | ⟨e, _⟩) <;> first | omega | cases e), if_pos rfl]
      congr 1; omega
    · rw [if_neg hn]
      unfold parseL
      rw [if_neg (pd_no45 _)]
      unfold parseT
      rw [if_neg (by rw [bad_pd _ _ (by omega)]; simp)]
      unfold finish fin
      rw [if_pos (pd_isD _), valD_pd, if_neg (by rintro (e | ⟨_, e⟩) <;> omega), if_neg (by simp)]
      congr 1; omega

theorem parseT_back (low : Bool) (t : List UInt8) (k : Int) (h : parseT low t = (k, 0)) : (t = [48] ∧ low = false ∧ k = 0) ∨ (t ≠ [] ∧ k ≠ 0 ∧ pd k.natAbs = t ∧ (low = true → k < 0 ∧ -9223372036854775808 ≤ k) ∧ (low = false → 0 < k ∧ k ≤ 9223372036854775807)) := by
  unfold parseT at h
  by_cases hb : badD low t = true
  · rw [if_pos hb] at h; simp at h
  · rw [if_neg hb] at h
    unfold finish at h
    by_cases hd : t.all isD = true
    · rw [if_pos hd] at h
      simp only [badD, Bool.or_eq_true, Bool.and_eq_true, not_or, not_and, decide_eq_true_iff] at hb
      obtain ⟨⟨hb1, hb2⟩, hb3⟩ := hb
      have hne : t ≠ [] := by intro e; subst e; simp at hb1
      by_cases h48 : t.head? = some 48
      · have hlen : t.length = 1 := by
          have h2 : ¬ 1 < t.length := fun hl => hb2 hl (by simpa using h48)
          have : t.length ≠ 0 := fun e => hne (List.length_eq_zero_iff.1 e)
          omega
        have ht : t = [48] := by
          match t, hlen with
          | [c], _ => simpa using h48
        subst ht
        cases low with
        | true => exact absurd (by rfl) (hb3 rfl)
        | false =>
          left
          refine ⟨rfl, rfl, ?_⟩
          have : fin false (valD 0 [48]) = (0, 0) := by decide +kernel
          rw [this] at h
          simpa using h.symm
      · right
        have hp := pd_valD _ t rfl hd h48
        have hv0 : valD 0 t ≠ 0 := fun e => by rw [e, pd_zero] at hp; exact hne hp.symm
        unfold fin at h
        by_cases hf : 9223372036854775808 < valD 0 t ∨ low = false ∧ valD 0 t = 9223372036854775808
        · rw [if_pos hf] at h; simp at h
        · rw [if_neg hf] at h
          have hf1 : ¬ 9223372036854775808 < valD 0 t := fun e => hf (.inl e)
          cases low with
          | true =>
            rw [if_pos rfl] at h
            have hk : k = -(valD 0 t : Int) := by simpa using (congrArg Prod.fst h).symm
            subst hk
            refine ⟨hne, by omega, ?_, fun _ => by omega, by simp⟩
            have : (-(valD 0 t : Int)).natAbs = valD 0 t := by omega
            rw [this, hp]
          | false =>
            rw [if_neg (by simp)] at h
            have hf2 : valD 0 t ≠ 9223372036854775808 := fun e => hf (.inr ⟨rfl, e⟩)
            have hk : k = (valD 0 t : Int) := by simpa using (congrArg Prod.fst h).symm
            subst hk
            refine ⟨hne, by omega, ?_, by simp, fun _ => by omega⟩
            have : ((valD 0 t : Int)).natAbs = valD 0 t := by omega
            rw [this, hp]
    · rw [if_neg hd] at h; simp at h

/-- And back. -/
theorem digs_parse (l : List UInt8) (k : Int) (h : parseL l = (k, 0)) : digs k = l ∧ -9223372036854775808 ≤ k ∧ k ≤ 9223372036854775807 := by
  unfold parseL at h
  by_cases h45 : l.head? = some 45
  · rw [if_pos h45] at h
    have hl : l = 45 :: l.tail := by
      cases l with
      | nil => simp at h45
      | cons c t => have : c = 45 := by simpa using h45
                    subst this; rfl
    rcases parseT_back _ _ _ h with ⟨_, h2, _⟩ | ⟨_, h2, h3, h4, _⟩
    · cases h2
    · obtain ⟨h5, h6⟩ := h4 rfl
      refine ⟨?_, h6, by omega⟩
      unfold digs
      rw [if_neg h2, if_pos h5, h3, ← hl]
  · rw [if_neg h45] at h
    rcases parseT_back _ _ _ h with ⟨h1, _, h2⟩ | ⟨_, h2, h3, _, h4⟩
    · subst h1; subst h2; exact ⟨rfl, by omega, by omega⟩
    · obtain ⟨h5, h6⟩ := h4 rfl
      refine ⟨?_, by omega, h6⟩
      unfold digs
      rw [if_neg h2, if_neg (by omega), h3]

theorem print_some (a : Int) (h0 : -9223372036854775808 ≤ a) (h1 : a ≤ 9223372036854775807) : digits_Print.f a = some (mk (digs a)) := by
  unfold digits_Print.f; rw [if_pos h0, if_pos h1]
theorem small_some (a : Int) (h0 : -9223372036854775808 ≤ a) (h1 : a ≤ 9223372036854775807) : digits_Small.f a = some (mk (digs a)) := by
  unfold digits_Small.f; rw [print_some a h0 h1]; rfl
theorem index_ev (l : List UInt8) (hl : l.length ≤ 4611686018427387904) (most : Int) : Ev (fun k => digits_Index.f k (mk l) most) (if (parseL l).2 = 0 then (if (parseL l).1 < 0 ∨ (parseL l).1 > most then (0, 18) else ((parseL l).1, 0)) else (0, (parseL l).2)) := by
  unfold digits_Index.f
  refine Ev.bind (f := fun _ bt => if bt.2 = 0 then (if bt.1 < 0 then some (0, 18) else if bt.1 > most then some (0, 18) else some (bt.1, 0)) else some (0, bt.2)) (parse_ev l hl) ?_
  refine ev_if (fun h => ?_) (fun h => ?_)
  · rw [if_pos h]
    refine ev_if (fun h1 => ?_) (fun h1 => ev_if (fun h2 => ?_) (fun h2 => ?_))
    · rw [if_pos (.inl h1)]; exact Ev.now _
    · rw [if_pos (.inr h2)]; exact Ev.now _
    · rw [if_neg (by omega)]; exact Ev.now _
  · rw [if_neg h]; exact Ev.now _

theorem i64_bounds {a : Int} (h : (Lit.int .i64 a).wf = true) : -9223372036854775808 ≤ a ∧ a ≤ 9223372036854775807 := by
  simpa [Lit.wf, IntKind.min, IntKind.max, IntKind.signed, IntKind.bits] using h

theorem works_ev : Ev (fun k => turntablelaw01_works.f k) true := by
  refine Ev.of (fun k => turntablelaw01_works.mono k) (k := 60) ?_
  decide +kernel
end Go.Proofs.Ythnkgnbemmndgaa.DigLaw
