import Derived.Test.YtkjdblbgmomieaaMj12
import Derived.Test.YtkjdblbgmomieaaMj14
-- from YtkjdblbgmomieaaPSim
section
namespace Go.Proofs.Ytkjdblbgmomieaa.PSh
open Go.RowKit Go.Proofs.YtkjdblbgmomieaaW.PrintWords Go.Proofs.YtkjdblbgmomieaaW.PrintLast Go.Proofs.YtkjdblbgmomieaaW.PrintMore Go.Proofs.Ytkjdblbgmomieaa.Str Go.Proofs.Ytkjdblbgmomieaa.Dig Go.Proofs.Ytkjdblbgmomieaa.DigLaw
set_option linter.unusedVariables false
set_option linter.unusedSimpArgs false
def Ex (us : List ByteArray) (ts ts' : List Tk) : Prop := ts'.map (·.f0) = ts.map (·.f0) ++ us
def Go2 {γ : Type} (ρ : γ → List Tk) (R : γ → γ → Prop) (x y : PE γ) : Prop := ∀ a, x = .ok a → ρ a ≠ [] → ∃ b, y = .ok b ∧ R a b
theorem ne_len {l : List Tk} (h : l ≠ []) : 0 < l.length := List.length_pos_iff.2 h
theorem len_ne {l : List Tk} (h : 0 < l.length) : l ≠ [] := List.length_pos_iff.1 h
section
variable {us : List ByteArray} {ts ts' : List Tk} {en en' : Int}
theorem Ex.pk (h : Ex us ts ts') (hn : ts ≠ []) : pk0 ts' = pk0 ts ∧ Ex us ts.tail ts'.tail := by
  cases ts with
  | nil => exact absurd rfl hn
  | cons t ts =>
    cases ts' with
    | nil => simp [Ex] at h
    | cons t' ts' =>
      simp only [Ex, List.map_cons, List.cons_append, List.cons.injEq] at h
      exact ⟨h.1, h.2⟩
theorem Ex.pk1 (h : Ex us ts ts') (hn : ts.tail ≠ []) : PSh.pk1 ts' = PSh.pk1 ts := by
  cases ts with
  | nil => exact absurd rfl hn
  | cons t ts =>
    have h2 := h.pk (by simp)
    have h3 := (h2.2.pk hn).1
    cases ts with
    | nil => exact absurd rfl hn
    | cons u ts =>
      cases ts' with
      | nil => simp [Ex] at h
      | cons t' ts' =>
        cases ts' with
        | nil => simp [Ex] at h
        | cons u' ts' => exact h3
theorem tail_ne {l : List Tk} (h : l.tail ≠ []) : l ≠ [] := by rintro rfl; exact h rfl
theorem Go2.bind {α β : Type} {ρ : α → List Tk} {ρ' : β → List Tk} {R : α → α → Prop} {R' : β → β → Prop} {x y : PE α} {f g : α → PE β} (h : Go2 ρ R x y) (hl : ∀ a c, f a = .ok c → ρ' c ≠ [] → ρ a ≠ []) (hf : ∀ a b, ρ a ≠ [] → R a b → Go2 ρ' R' (f a) (g b)) : Go2 ρ' R' (Except.bind x f) (Except.bind y g) := by
  intro c hc hn
  obtain ⟨a, ha, hc⟩ := bind_inv hc
  obtain ⟨b, hb, hR⟩ := h a ha (hl a c hc hn)
  obtain ⟨d, hd, hR2⟩ := hf a b (hl a c hc hn) hR c hc hn
  exact ⟨d, by rw [hb]; exact hd, hR2⟩
theorem Go2.ok {γ : Type} {ρ : γ → List Tk} {R : γ → γ → Prop} {a b : γ} (h : ρ a ≠ [] → R a b) : Go2 ρ R (.ok a) (.ok b) := by
  intro c hc hn
  cases hc
  exact ⟨b, rfl, h hn⟩
theorem Go2.fail {γ : Type} {ρ : γ → List Tk} {R : γ → γ → Prop} {c : Int} {y : PE γ} : Go2 ρ R (failP en ts c) y := by
  intro a ha
  cases ha
theorem Go2.error {γ : Type} {ρ : γ → List Tk} {R : γ → γ → Prop} {c : Int × Int} {y : PE γ} : Go2 ρ R (.error c) y := by
  intro a ha
  cases ha
def Sm {α : Type} (us : List ByteArray) (a b : α × List Tk) : Prop := a.1 = b.1 ∧ Ex us a.2 b.2
def Sm3 {α β : Type} (us : List ByteArray) (a b : α × β × List Tk) : Prop := a.1 = b.1 ∧ a.2.1 = b.2.1 ∧ Ex us a.2.2 b.2.2
theorem want_sim {s : List UInt8} (h : Ex us ts ts') : Go2 id (Ex us) (wantP en s ts) (wantP en' s ts') := by
  unfold wantP
  split
  · next c =>
    intro a ha hn
    cases ha
    have hp := h.pk (tail_ne hn)
    rw [hp.1, if_pos c]
    exact ⟨_, rfl, hp.2⟩
  · exact Go2.fail
theorem name_sim (h : Ex us ts ts') : Go2 Prod.snd (Sm us) (nameP en ts) (nameP en' ts') := by
  unfold nameP
  split
  · next c =>
    intro a ha hn
    cases ha
    have hp := h.pk (tail_ne hn)
    rw [hp.1, if_pos c]
    exact ⟨_, rfl, rfl, hp.2⟩
  · exact Go2.fail
theorem index_sim {sign most c : Int} (h : Ex us ts ts') : Go2 Prod.snd (Sm us) (indexP en sign most c ts) (indexP en' sign most c ts') := by
  unfold indexP
  split
  · exact Go2.fail
  next c1 =>
  split
  · exact Go2.fail
  next c2 =>
  split
  · next c3 =>
    intro a ha hn
    cases ha
    have hp := h.pk (tail_ne hn)
    rw [hp.1, if_neg c1, if_neg c2, if_pos c3]
    exact ⟨_, rfl, rfl, hp.2⟩
  · exact Go2.fail
theorem number_sim {low high : Int} (h : Ex us ts ts') : Go2 Prod.snd (Sm us) (numberP en low high ts) (numberP en' low high ts') := by
  unfold numberP
  split
  · next c =>
    intro a ha hn
    cases ha
    have hp := h.pk (tail_ne hn)
    rw [hp.1, if_pos c]
    exact ⟨_, rfl, rfl, hp.2⟩
  · exact Go2.fail
theorem value_sim (h : Ex us ts ts') : Go2 Prod.snd (Sm us) (valueP en ts) (valueP en' ts') := index_sim h
theorem label_sim (h : Ex us ts ts') : Go2 Prod.snd (Sm us) (labelP en ts) (labelP en' ts') := index_sim h
theorem pk1_one (h : ts.tail = []) : pk1 ts = ⟨#[]⟩ := by
  cases ts with
  | nil => rfl
  | cons t ts => cases h; rfl
theorem empty_ne (s : List UInt8) (hs : s ≠ []) : ((⟨#[]⟩ : ByteArray).toList != s) = true := by
  rw [show (⟨#[]⟩ : ByteArray).toList = [] from ByteArray.toList_empty]
  cases s with
  | nil => exact absurd rfl hs
  | cons a l => rfl
theorem values_ex (h : Ex us ts ts') (hn : ts ≠ []) (h2 : valuesP ts = true → ts.tail ≠ []) : valuesP ts' = valuesP ts := by
  by_cases c : ts.tail = []
  · have h3 : valuesP ts = false := Bool.eq_false_iff.mpr fun q => h2 q c
    rw [h3]
    unfold valuesP at h3 ⊢
    rw [pk1_one c, empty_ne _ (by simp), Bool.and_true] at h3
    rw [(h.pk hn).1, h3, Bool.false_and]
  · unfold valuesP
    rw [(h.pk hn).1, h.pk1 c]
theorem pair_ex (h : Ex us ts ts') (hn : ts ≠ []) (h2 : pairP ts = true → ts.tail ≠ []) : pairP ts' = pairP ts := by
  by_cases c : ts.tail = []
  · have h3 : pairP ts = false := Bool.eq_false_iff.mpr fun q => h2 q c
    rw [h3]
    unfold pairP at h3 ⊢
    rw [pk1_one c, empty_ne _ (by simp), Bool.and_true] at h3
    rw [(h.pk hn).1, h3, Bool.false_and]
  · unfold pairP
    rw [(h.pk hn).1, h.pk1 c]
end
theorem index_lt {en sign most c : Int} {ts : List Tk} {q : Int × List Tk} (h : indexP en sign most c ts = .ok q) (hn : q.2 ≠ []) : ts.tail ≠ [] := by
  unfold indexP failP at h
  split at h
  · cases h
  split at h
  · cases h
  split at h
  · cases h; exact hn
  · cases h
theorem phi_sim {us : List ByteArray} {en en' : Int} : ∀ (m m' : Nat) (xa xt : List Int) (ts ts' : List Tk), m ≤ m' → Ex us ts ts' → Go2 (fun q : List Int × List Int × List Tk => q.2.2) (Sm3 us) (phiP en m xa xt ts) (phiP en' m' xa xt ts')
  | 0, _, _, _, _, _, _, _ => Go2.error
  | m + 1, 0, _, _, _, _, h, _ => absurd h (by omega)
  | m + 1, m' + 1, xa, xt, ts, ts', hm, h => by
    intro a ha hn
    replace hn : a.2.2 ≠ [] := hn
    have hts : ts ≠ [] := len_ne (by have := phiP_len _ _ _ _ _ _ ha; have := ne_len hn; omega)
    have hp : (xt.length == 0) = true ∨ pairP ts' = pairP ts := by
      by_cases q : (xt.length == 0) = true
      · exact .inl q
      · refine .inr (pair_ex h hts fun c => ?_)
        have ha := ha
        simp only [phiP] at ha
        rw [if_pos (by rw [c, Bool.or_true])] at ha
        obtain ⟨b, hb, ha⟩ := bind_inv ha
        obtain ⟨v, hv, ha⟩ := bind_inv ha
        have h1 := phiP_len _ _ _ _ _ _ ha
        have h2 := index_le hv
        exact index_lt hb (len_ne (by have := ne_len hn; omega))
    have hp2 : ((xt.length == 0) || pairP ts') = ((xt.length == 0) || pairP ts) := by
      rcases hp with q | q
      · rw [q]; rfl
      · rw [q]
    revert a
    show Go2 (fun q : List Int × List Int × List Tk => q.2.2) (Sm3 us) (phiP en (m + 1) xa xt ts) (phiP en' (m' + 1) xa xt ts')
    simp only [phiP]
    rw [hp2]
    split
    · refine (label_sim h).bind (fun a c hc hn => ?_) fun b b' hb1 hb => (value_sim hb.2).bind (fun a c hc hn => ?_) fun v v' hv1 hv => ?_
      · replace hn : c.2.2 ≠ [] := hn
        obtain ⟨v, hv, hc⟩ := bind_inv hc
        have h1 := phiP_len _ _ _ _ _ _ hc
        have h2 := index_le hv
        exact len_ne (by have := ne_len hn; omega)
      · replace hn : c.2.2 ≠ [] := hn
        have h1 := phiP_len _ _ _ _ _ _ hc
        exact len_ne (by have := ne_len hn; omega)
      · rw [← hb.1, ← hv.1]
        exact phi_sim m m' _ _ _ _ (by omega) hv.2
    · exact Go2.ok fun _ => ⟨rfl, rfl, h⟩
theorem args_sim {us : List ByteArray} {en en' : Int} : ∀ (m m' : Nat) (xa : List Int) (ts ts' : List Tk), m ≤ m' → Ex us ts ts' → Go2 Prod.snd (Sm us) (argsP en m xa ts) (argsP en' m' xa ts')
  | 0, _, _, _, _, _, _ => Go2.error
  | m + 1, 0, _, _, _, h, _ => absurd h (by omega)
  | m + 1, m' + 1, xa, ts, ts', hm, h => by
    intro a ha hn
    have hts : ts ≠ [] := len_ne (by have := argsP_len _ _ _ _ _ ha; have := ne_len hn; omega)
    have hp : valuesP ts' = valuesP ts := by
      refine values_ex h hts fun c => ?_
      have ha := ha
      simp only [argsP] at ha
      rw [if_pos c] at ha
      obtain ⟨v, hv, ha⟩ := bind_inv ha
      have h1 := argsP_len _ _ _ _ _ ha
      exact index_lt hv (len_ne (by have := ne_len hn; omega))
    revert a
    show Go2 Prod.snd (Sm us) (argsP en (m + 1) xa ts) (argsP en' (m' + 1) xa ts')
    simp only [argsP]
    rw [hp]
    split
    · refine (value_sim h).bind (fun a c hc hn => ?_) fun v v' hv1 hv => ?_
      · have h1 := argsP_len _ _ _ _ _ hc
        exact len_ne (by have := ne_len hn; omega)
      · rw [← hv.1]
        exact args_sim m m' _ _ _ (by omega) hv.2
    · exact Go2.ok fun _ => ⟨rfl, h⟩
theorem take_sim {us : List ByteArray} {en en' : Int} : ∀ (m : Nat) (xa : List Int) (ts ts' : List Tk), Ex us ts ts' → Go2 Prod.snd (Sm us) (takeP en m xa ts) (takeP en' m xa ts')
  | 0, _, _, _, h => Go2.ok fun _ => ⟨rfl, h⟩
  | m + 1, xa, ts, ts', h => by
    simp only [takeP]
    refine (value_sim h).bind (fun a c hc hn => ?_) fun v v' hv1 hv => ?_
    · have h1 := takeP_len _ _ _ _ _ hc
      exact len_ne (by have := ne_len hn; omega)
    · rw [← hv.1]
      exact take_sim m _ _ _ hv.2
end Go.Proofs.Ytkjdblbgmomieaa.PSh
end
-- from YtkjdblbgmomieaaPSimF
section
namespace Go.Proofs.Ytkjdblbgmomieaa.PSh
open Go.RowKit Go.Proofs.YtkjdblbgmomieaaW.PrintWords Go.Proofs.YtkjdblbgmomieaaW.PrintLast Go.Proofs.YtkjdblbgmomieaaW.PrintMore Go.Proofs.Ytkjdblbgmomieaa.Str Go.Proofs.Ytkjdblbgmomieaa.Dig Go.Proofs.Ytkjdblbgmomieaa.DigLaw
set_option linter.unusedVariables false
set_option linter.unusedSimpArgs false
section
variable {us : List ByteArray} {ts ts' : List Tk} {en en' : Int}
theorem Ex.len (h : Ex us ts ts') : ts.length ≤ ts'.length := by
  have := congrArg List.length h
  simp at this
  omega
theorem one_sim {α : Type} {q q' : PE (α × List Tk)} {f : α → OpR} (h : Go2 Prod.snd (Sm us) q q') : Go2 Prod.snd (Sm us) (Except.bind q fun a => (.ok (f a.1, a.2) : PE (OpR × List Tk))) (Except.bind q' fun a => .ok (f a.1, a.2)) :=
  h.bind (fun a c hc hn => by cases hc; exact hn) fun a b ha hb => by
    rw [← hb.1]
    exact Go2.ok fun _ => ⟨rfl, hb.2⟩
theorem call_sim (h : Ex us ts ts') : Go2 Prod.snd (Sm us) (callP en ts) (callP en' ts') := by
  have shr : ∀ (t : List Tk) (i : Int) (c : OpR × List Tk), ((nameP en t).bind fun m => (argsP en (m.2.length + 1) [] m.2).bind fun a => (.ok (⟨i, m.1, a.1, []⟩, a.2) : PE (OpR × List Tk))) = .ok c → c.2 ≠ [] → t.tail ≠ [] := by
    intro t i c hc hn
    obtain ⟨m, hm, hc⟩ := bind_inv hc
    obtain ⟨a, ha, hc⟩ := bind_inv hc
    cases hc
    have h1 := argsP_len _ _ _ _ _ ha
    have h2 := (nameP_ok hm).2.2
    rw [← h2]
    exact len_ne (by have := ne_len hn; simp only at this; omega)
  intro c hc hn
  have hts : ts ≠ [] := len_ne (by
    have hc := hc
    unfold callP at hc
    obtain ⟨q, hq, hc⟩ := bind_inv hc
    have h3 := ne_len (tail_ne (shr _ _ _ hc hn))
    split at hq
    · have := index_le hq; omega
    · cases hq; exact h3)
  revert c
  show Go2 Prod.snd (Sm us) (callP en ts) (callP en' ts')
  unfold callP
  rw [(h.pk hts).1]
  refine Go2.bind (ρ := Prod.snd) (R := Sm us) ?_ (fun a c hc hn => tail_ne (shr _ _ _ hc hn)) fun q q' hq0 hq => (name_sim hq.2).bind (fun a c hc hn => ?_) fun m m' hm0 hm => ?_
  · split
    · exact index_sim h
    · exact Go2.ok fun _ => ⟨rfl, h⟩
  · obtain ⟨r, hr, hc⟩ := bind_inv hc
    cases hc
    have h1 := argsP_len _ _ _ _ _ hr
    exact len_ne (by have := ne_len hn; simp only at this; omega)
  · rw [← hq.1, ← hm.1]
    exact one_sim (f := fun a => ⟨q.1, m.1, a, []⟩) (args_sim (us := us) (en := en) (en' := en') (m.2.length + 1) (m'.2.length + 1) [] m.2 m'.2 (by have := hm.2.len; omega) hm.2)
theorem ok_len {α : Type} {f : α → OpR} {q : PE (α × List Tk)} {c : OpR × List Tk} (hc : (Except.bind q fun a => (.ok (f a.1, a.2) : PE (OpR × List Tk))) = .ok c) (hn : c.2 ≠ []) : ∃ a, q = .ok a ∧ a.2 ≠ [] := by
  obtain ⟨a, ha, hc⟩ := bind_inv hc
  cases hc
  exact ⟨a, ha, hn⟩
theorem shr_number {t : List Tk} {low high : Int} {f : Int → OpR} {c : OpR × List Tk} (hc : (Except.bind (numberP en low high t) fun a => (.ok (f a.1, a.2) : PE (OpR × List Tk))) = .ok c) (hn : c.2 ≠ []) : t ≠ [] := by
  obtain ⟨a, ha, h⟩ := ok_len hc hn
  exact len_ne (by have := number_le ha; have := ne_len h; omega)
theorem shr_value {t : List Tk} {f : Int → OpR} {c : OpR × List Tk} (hc : (Except.bind (valueP en t) fun a => (.ok (f a.1, a.2) : PE (OpR × List Tk))) = .ok c) (hn : c.2 ≠ []) : t ≠ [] := by
  obtain ⟨a, ha, h⟩ := ok_len hc hn
  exact len_ne (by have := index_le ha; have := ne_len h; omega)
theorem shr_label {t : List Tk} {f : Int → OpR} {c : OpR × List Tk} (hc : (Except.bind (labelP en t) fun a => (.ok (f a.1, a.2) : PE (OpR × List Tk))) = .ok c) (hn : c.2 ≠ []) : t ≠ [] := by
  obtain ⟨a, ha, h⟩ := ok_len hc hn
  exact len_ne (by have := index_le ha; have := ne_len h; omega)
theorem oper_sim {op : Int} (h : Ex us ts ts') : Go2 Prod.snd (Sm us) (operP en op ts) (operP en' op ts') := by
  intro c hc hn
  have hts : ts ≠ [] := len_ne (by have := operP_len hc; have := ne_len hn; omega)
  have hc0 := hc
  revert c
  suffices hh : Go2 Prod.snd (Sm us) (operP en op ts) (operP en' op ts') from fun c hc hn hc0 => hh c hc hn
  unfold operP
  by_cases k0 : op = 1
  · rw [if_pos k0, if_pos k0]; exact one_sim (f := fun a => ⟨a, noB, [], []⟩) (number_sim h)
  rw [if_neg k0, if_neg k0]
  by_cases k1 : op = 10
  · rw [if_pos k1, if_pos k1, (h.pk hts).1]
    by_cases c : shpCode (pk0 ts) = 0
    · rw [if_pos c, if_pos c]; exact Go2.ok fun _ => ⟨rfl, (h.pk hts).2⟩
    · rw [if_neg c]; exact Go2.fail
  rw [if_neg k1, if_neg k1]
  by_cases k2 : op = 11 ∨ op = 12 ∨ op = 15
  · rw [if_pos k2, if_pos k2]
    refine (value_sim h).bind (fun a c hc hn => shr_number (f := fun q => ⟨q, noB, [a.1], []⟩) hc hn) fun v v' hv0 hv => ?_
    rw [← hv.1]
    exact one_sim (f := fun a => ⟨a, noB, [v.1], []⟩) (number_sim hv.2)
  rw [if_neg k2, if_neg k2]
  by_cases k3 : op = 13 ∨ op = 14
  · rw [if_pos k3, if_pos k3]
    refine (value_sim h).bind (fun a c hc hn => ?_) fun v v' hv0 hv => (number_sim hv.2).bind (fun a c hc hn => shr_value (f := fun u => ⟨a.1, noB, [v.1, u], []⟩) hc hn) fun q q' hq0 hq => ?_
    · obtain ⟨q, hq, hc⟩ := bind_inv hc
      have h1 := ne_len (shr_value (f := fun u => ⟨q.1, noB, [a.1, u], []⟩) hc hn)
      exact len_ne (by have := number_le hq; omega)
    · rw [← hv.1, ← hq.1]
      exact one_sim (f := fun a => ⟨q.1, noB, [v.1, a], []⟩) (value_sim hq.2)
  rw [if_neg k3, if_neg k3]
  by_cases k4 : op = 20
  · rw [if_pos k4, if_pos k4]
    refine (phi_sim (us := us) (en := en) (en' := en') _ (ts'.length + 1) [] [] ts ts' (by have := h.len; omega) h).bind (fun a c hc hn => by cases hc; exact hn) fun q q' hq0 hq => ?_
    rw [← hq.1, ← hq.2.1]
    exact Go2.ok fun _ => ⟨rfl, hq.2.2⟩
  rw [if_neg k4, if_neg k4]
  by_cases k5 : op = 21
  · rw [if_pos k5, if_pos k5]; exact call_sim h
  rw [if_neg k5, if_neg k5]
  by_cases k6 : op = 23
  · rw [if_pos k6, if_pos k6]; exact one_sim (f := fun a => ⟨a, noB, [], []⟩) (number_sim h)
  rw [if_neg k6, if_neg k6]
  by_cases k7 : op = 24
  · rw [if_pos k7, if_pos k7]
    refine (value_sim h).bind (fun a c hc hn => shr_number (f := fun q => ⟨q, noB, [a.1], []⟩) hc hn) fun v v' hv0 hv => ?_
    rw [← hv.1]
    exact one_sim (f := fun a => ⟨a, noB, [v.1], []⟩) (number_sim hv.2)
  rw [if_neg k7, if_neg k7]
  by_cases k8 : op = 26
  · rw [if_pos k8, if_pos k8]; exact one_sim (f := fun a => ⟨0, noB, [], [a]⟩) (label_sim h)
  rw [if_neg k8, if_neg k8]
  by_cases k9 : op = 27
  · rw [if_pos k9, if_pos k9]
    refine (value_sim h).bind (fun a c hc hn => ?_) fun v v' hv0 hv => (label_sim hv.2).bind (fun a c hc hn => shr_label (f := fun u => ⟨0, noB, [v.1], [a.1, u]⟩) hc hn) fun q q' hq0 hq => ?_
    · obtain ⟨q, hq, hc⟩ := bind_inv hc
      have h1 := ne_len (shr_label (f := fun u => ⟨0, noB, [a.1], [q.1, u]⟩) hc hn)
      exact len_ne (by have := index_le hq; omega)
    · rw [← hv.1, ← hq.1]
      exact one_sim (f := fun a => ⟨0, noB, [v.1], [q.1, a]⟩) (label_sim hq.2)
  rw [if_neg k9, if_neg k9]
  by_cases k10 : op = 28
  · rw [if_pos k10, if_pos k10]
    intro c hc hn
    have hv : valuesP ts' = valuesP ts := by
      refine values_ex h hts fun q => ?_
      rw [if_pos q] at hc
      obtain ⟨a, ha, h2⟩ := ok_len (f := fun a => ⟨0, noB, [a], []⟩) hc hn
      exact index_lt ha h2
    revert c
    show Go2 Prod.snd (Sm us) _ _
    rw [hv]
    split
    · exact one_sim (f := fun a => ⟨0, noB, [a], []⟩) (value_sim h)
    · exact Go2.ok fun _ => ⟨rfl, h⟩
  rw [if_neg k10, if_neg k10]
  by_cases k11 : op = 29
  · rw [if_pos k11, if_pos k11]; exact one_sim (f := fun a => ⟨a, noB, [], []⟩) (number_sim h)
  rw [if_neg k11, if_neg k11]
  exact one_sim (f := fun a => ⟨0, noB, a, []⟩) (take_sim _ _ _ _ h)
theorem id_sim (h : Ex us ts ts') (h2 : ts.tail ≠ []) : Go2 Prod.snd (Sm us) (idP en ts) (idP en' ts') := by
  unfold idP
  rw [h.pk1 h2]
  split
  · refine (value_sim h).bind (fun a c hc hn => by cases hc; exact tail_ne hn) fun v v' hv0 hv => ?_
    rw [← hv.1]
    exact Go2.ok fun _ => ⟨rfl, (hv.2.pk hv0).2⟩
  · exact Go2.ok fun _ => ⟨rfl, h⟩
def nrm (x : SI) : SI := { x with f7 := 0 }
def SmI (us : List ByteArray) (a b : SI × List Tk) : Prop := nrm a.1 = nrm b.1 ∧ Ex us a.2 b.2
theorem instr_sim (h : Ex us ts ts') : Go2 Prod.snd (SmI us) (instrP en ts) (instrP en' ts') := by
  have shr : ∀ (i : Int × List Tk) (c : SI × List Tk), (if (opOfW (pk0 i.2)).1 = 0 then failP en i.2 2
    else if ((makesI (opOfW (pk0 i.2)).1 (opOfW (pk0 i.2)).2 != 0) != decide (0 ≤ i.1)) = true then failP en i.2 8
    else (operP en (opOfW (pk0 i.2)).1 i.2.tail).bind fun r => (.ok (⟨(opOfW (pk0 i.2)).1, i.1, r.1.n, (opOfW (pk0 i.2)).2, r.1.xa, r.1.xt, r.1.nm, hereP en ts⟩, r.2) : PE (SI × List Tk))) = .ok c → c.2 ≠ [] → i.2.tail ≠ [] := by
    intro i c hc hn
    split at hc
    · cases hc
    split at hc
    · cases hc
    obtain ⟨r, hr, hc⟩ := bind_inv hc
    cases hc
    have := operP_len hr
    exact len_ne (by have := ne_len hn; simp only at this; omega)
  intro c hc hn
  have htl : ts.tail ≠ [] := by
    have hc := hc
    unfold instrP at hc
    obtain ⟨i, hi, hc⟩ := bind_inv hc
    have h1 := ne_len (shr _ _ hc hn)
    have h2 := idP_len hi
    refine len_ne ?_
    rw [List.length_tail] at h1 ⊢
    omega
  revert c
  show Go2 Prod.snd (SmI us) (instrP en ts) (instrP en' ts')
  unfold instrP
  refine (id_sim h htl).bind (fun a c hc hn => tail_ne (shr _ _ hc hn)) fun i i' hi0 hi => ?_
  have hp := hi.2.pk hi0
  rw [hp.1, ← hi.1]
  split
  · exact Go2.fail
  split
  · exact Go2.fail
  refine (oper_sim hp.2).bind (fun a c hc hn => by cases hc; exact hn) fun r r' hr0 hr => ?_
  rw [← hr.1]
  exact Go2.ok fun _ => ⟨rfl, hr.2⟩
theorem n_code (en : Int) : ∀ (m : Nat) (acc : List SI) (n : Int) (ts : List Tk) (q : List SI × Int × List Tk), codeP en m acc n ts = .ok q → n ≤ q.2.1 ∧ q.2.1 - n ≤ (ts.length : Int) - q.2.2.length
  | 0, _, _, _, _, h => by cases h
  | m + 1, acc, n, ts, q, h => by
    simp only [codeP] at h
    split at h
    · split at h
      · cases h
      · obtain ⟨x, hx, h⟩ := bind_inv h
        have h1 := n_code en m _ _ _ _ h
        have h2 := instrP_len hx
        omega
    · cases h; simp
theorem instr_two {x : SI × List Tk} (h : instrP en ts = .ok x) (hn : x.2 ≠ []) : ts.tail ≠ [] := by
  have := instrP_len h
  have := ne_len hn
  refine len_ne ?_
  rw [List.length_tail]
  omega
theorem code_test (h : Ex us ts ts') (hn : ts ≠ []) (h2 : (((pk0 ts).toList != ([125] : List UInt8)) && ((pk1 ts).toList != ([58] : List UInt8))) = true → ts.tail ≠ []) : (((pk0 ts').toList != ([125] : List UInt8)) && ((pk1 ts').toList != ([58] : List UInt8))) = (((pk0 ts).toList != ([125] : List UInt8)) && ((pk1 ts).toList != ([58] : List UInt8))) := by
  by_cases c : ts.tail = []
  · have h3 := Bool.eq_false_iff.mpr fun q => h2 q c
    rw [h3]
    rw [pk1_one c, empty_ne _ (by simp), Bool.and_true] at h3
    rw [(h.pk hn).1, h3, Bool.false_and]
  · rw [(h.pk hn).1, h.pk1 c]
def SmC (us : List ByteArray) (d : Int) (a b : List SI × Int × List Tk) : Prop := a.1.map nrm = b.1.map nrm ∧ b.2.1 = a.2.1 + d ∧ Ex us a.2.2 b.2.2
def r3 {α β : Type} (a : α × β × List Tk) : List Tk := a.2.2
theorem code_sim (d : Int) : ∀ (m m' : Nat) (acc acc' : List SI) (n : Int) (ts ts' : List Tk), m ≤ m' → acc.map nrm = acc'.map nrm → n + d + ts.length ≤ 4096 → Ex us ts ts' → Go2 r3 (SmC us d) (codeP en m acc n ts) (codeP en' m' acc' (n + d) ts')
  | 0, _, _, _, _, _, _, _, _, _, _ => Go2.error
  | m + 1, 0, _, _, _, _, _, h, _, _, _ => absurd h (by omega)
  | m + 1, m' + 1, acc, acc', n, ts, ts', hm, hacc, hd, h => by
    intro c hc hn
    replace hn : c.2.2 ≠ [] := hn
    have hts : ts ≠ [] := len_ne (by have := n_code _ _ _ _ _ _ hc; have := ne_len hn; omega)
    have ht := code_test h hts (fun q => by
      have hc := hc
      simp only [codeP] at hc
      rw [if_pos q] at hc
      split at hc
      · cases hc
      · obtain ⟨x, hx, hc⟩ := bind_inv hc
        exact instr_two hx (len_ne (by have := n_code _ _ _ _ _ _ hc; have := ne_len hn; omega)))
    revert c
    show Go2 r3 (SmC us d) (codeP en (m + 1) acc n ts) (codeP en' (m' + 1) acc' (n + d) ts')
    simp only [codeP]
    rw [ht]
    split
    · split
      · exact Go2.fail
      · have := ne_len hts
        rw [if_neg (by omega)]
        intro c hc hn
        obtain ⟨x, hx, hc⟩ := bind_inv hc
        replace hn : c.2.2 ≠ [] := hn
        have hl := instrP_len hx
        have hxn : x.2 ≠ [] := len_ne (by have := n_code _ _ _ _ _ _ hc; have := ne_len hn; omega)
        obtain ⟨x', hx', hR⟩ := instr_sim (en' := en') h x hx hxn
        obtain ⟨c', hc', hR2⟩ := code_sim d m m' (acc ++ [x.1]) (acc' ++ [x'.1]) (n + 1) x.2 x'.2 (by omega) (by rw [List.map_append, List.map_append, hacc]; simp [hR.1]) (by omega) hR.2 c hc hn
        refine ⟨c', ?_, hR2⟩
        rw [hx']
        show codeP en' m' (acc' ++ [x'.1]) (n + d + 1) x'.2 = _
        rw [show n + d + 1 = n + 1 + d by omega]
        exact hc'
    · exact Go2.ok fun _ => ⟨hacc, rfl, h⟩
theorem block_sim {k n : Int} (d : Int) (hd : n + d + ts.length ≤ 4096) (h : Ex us ts ts') : Go2 r3 (SmC us d) (blockP en k n ts) (blockP en' k (n + d) ts') := by
  intro c hc hn
  have hts : ts ≠ [] := by
    rintro rfl
    have hc := hc
    unfold blockP at hc
    split at hc
    · cases hc
    split at hc
    · next q => 
      have q2 := (show (⟨#[]⟩ : ByteArray).toList = [] from ByteArray.toList_empty).symm.trans q
      rw [mk_toList] at q2
      cases q2
    · cases hc
  have hp := h.pk hts
  revert c
  show Go2 r3 (SmC us d) (blockP en k n ts) (blockP en' k (n + d) ts')
  unfold blockP
  rw [hp.1]
  split
  · exact Go2.fail
  split
  · intro c hc hn
    obtain ⟨u, hu, hc⟩ := bind_inv hc
    replace hn : c.2.2 ≠ [] := hn
    have h1 := n_code _ _ _ _ _ _ hc
    have h2 := (wantP_ok hu).2
    have h3 := tail_le ts.tail
    have h4 := tail_le ts
    have hul : u.length ≤ ts.length := by subst h2; omega
    obtain ⟨u', hu', hR⟩ := want_sim (en' := en') hp.2 u hu (len_ne (by have := ne_len hn; show 0 < u.length; omega))
    have hl := hR.len
    obtain ⟨c', hc', hR2⟩ := code_sim (us := us) (en := en) (en' := en') d (u.length + 1) (u'.length + 1) [] [] n u u' (by omega) rfl (by omega) hR c hc hn
    exact ⟨c', by rw [hu']; exact hc', hR2⟩
  · exact Go2.fail
theorem n_block {k n : Int} {q : List SI × Int × List Tk} (h : blockP en k n ts = .ok q) (hn : q.2.2 ≠ []) : n ≤ q.2.1 ∧ q.2.1 - n ≤ (ts.length : Int) - q.2.2.length := by
  unfold blockP at h
  split at h
  · cases h
  split at h
  · obtain ⟨u, hu, h⟩ := bind_inv h
    have h1 := n_code _ _ _ _ _ _ h
    have h2 := (wantP_ok hu).2
    have h3 := tail_le ts.tail
    have h4 := tail_le ts
    subst h2
    omega
  · cases h
theorem params_sim : ∀ (m m' : Nat) (ps : List Int) (ts ts' : List Tk), m ≤ m' → Ex us ts ts' → Go2 Prod.snd (Sm us) (paramsP en m ps ts) (paramsP en' m' ps ts')
  | 0, _, _, _, _, _, _ => Go2.error
  | m + 1, 0, _, _, _, h, _ => absurd h (by omega)
  | m + 1, m' + 1, ps, ts, ts', hm, h => by
    intro c hc hn
    have hts : ts ≠ [] := len_ne (by have := paramsP_len _ _ _ _ _ hc; have := ne_len hn; omega)
    have hp := h.pk hts
    revert c
    show Go2 Prod.snd (Sm us) (paramsP en (m + 1) ps ts) (paramsP en' (m' + 1) ps ts')
    simp only [paramsP]
    rw [hp.1]
    split
    · exact Go2.ok fun _ => ⟨rfl, h⟩
    split
    · exact Go2.fail
    split
    · exact Go2.fail
    exact params_sim m m' _ _ _ (by omega) hp.2
def SmB (us : List ByteArray) (d : Int) (a b : List (List SI) × Int × List Tk) : Prop := a.1.map (List.map nrm) = b.1.map (List.map nrm) ∧ b.2.1 = a.2.1 + d ∧ Ex us a.2.2 b.2.2
theorem n_blocks (en : Int) : ∀ (m : Nat) (bs : List (List SI)) (n : Int) (ts : List Tk) (q : List (List SI) × Int × List Tk), blocksP en m bs n ts = .ok q → q.2.2 ≠ [] → n ≤ q.2.1 ∧ q.2.1 - n ≤ (ts.length : Int) - q.2.2.length
  | 0, _, _, _, _, h, _ => by cases h
  | m + 1, bs, n, ts, q, h, hn => by
    simp only [blocksP] at h
    split at h
    · cases h; simp
    · obtain ⟨b, hb, h⟩ := bind_inv h
      have h1 := n_blocks en m _ _ _ _ h hn
      have h2 := n_block hb (len_ne (by have := ne_len hn; omega))
      omega
theorem blocks_sim (d : Int) : ∀ (m m' : Nat) (bs bs' : List (List SI)) (n : Int) (ts ts' : List Tk), m ≤ m' → bs.map (List.map nrm) = bs'.map (List.map nrm) → n + d + ts.length ≤ 4096 → Ex us ts ts' → Go2 r3 (SmB us d) (blocksP en m bs n ts) (blocksP en' m' bs' (n + d) ts')
  | 0, _, _, _, _, _, _, _, _, _, _ => Go2.error
  | m + 1, 0, _, _, _, _, _, h, _, _, _ => absurd h (by omega)
  | m + 1, m' + 1, bs, bs', n, ts, ts', hm, hbs, hd, h => by
    intro c hc hn
    replace hn : c.2.2 ≠ [] := hn
    have hts : ts ≠ [] := len_ne (by have := n_blocks _ _ _ _ _ _ hc hn; have := ne_len hn; omega)
    have hp := h.pk hts
    have hlen : bs'.length = bs.length := by have := congrArg List.length hbs; simpa using this.symm
    simp only [blocksP] at hc ⊢
    rw [hp.1, hlen]
    by_cases c1 : (pk0 ts).toList = ([125] : List UInt8)
    · rw [if_pos c1] at hc ⊢
      cases hc
      exact ⟨_, rfl, hbs, rfl, h⟩
    · rw [if_neg c1] at hc ⊢
      obtain ⟨b, hb, hc⟩ := bind_inv hc
      have h1 := n_blocks _ _ _ _ _ _ hc hn
      have hbn : b.2.2 ≠ [] := len_ne (by have := ne_len hn; omega)
      have h2 := n_block hb hbn
      obtain ⟨b', hb', hR⟩ := block_sim (en' := en') d hd h b hb hbn
      obtain ⟨c', hc', hR2⟩ := blocks_sim d m m' (bs ++ [b.1]) (bs' ++ [b'.1]) b.2.1 b.2.2 b'.2.2 (by omega) (by rw [List.map_append, List.map_append, hbs]; simp [hR.1]) (by omega) hR.2.2 c hc hn
      refine ⟨c', ?_, hR2⟩
      rw [hb']
      show blocksP en' m' (bs' ++ [b'.1]) b'.2.1 b'.2.2 = _
      rw [hR.2.1]
      exact hc'
def r4 {α β δ : Type} (a : α × β × δ × List Tk) : List Tk := a.2.2.2
def Sm4 (us : List ByteArray) (a b : ByteArray × List Int × Int × List Tk) : Prop := a.1 = b.1 ∧ a.2.1 = b.2.1 ∧ a.2.2.1 = b.2.2.1 ∧ Ex us a.2.2.2 b.2.2.2
theorem want_le {s : List UInt8} {t u : List Tk} (h : wantP en s t = .ok u) (hn : u ≠ []) : t ≠ [] := by
  have := (wantP_ok h).2
  subst this
  exact tail_ne hn
theorem head_sim (h : Ex us ts ts') : Go2 r4 (Sm4 us) (headP en ts) (headP en' ts') := by
  intro c hc hn
  replace hn : c.2.2.2 ≠ [] := hn
  unfold headP at hc ⊢
  obtain ⟨t1, h1, hc⟩ := bind_inv hc
  obtain ⟨m, h2, hc⟩ := bind_inv hc
  obtain ⟨t2, h3, hc⟩ := bind_inv hc
  obtain ⟨p, h4, hc⟩ := bind_inv hc
  obtain ⟨t3, h5, hc⟩ := bind_inv hc
  split at hc
  · cases hc
  next c6 =>
  obtain ⟨t4, h6, hc⟩ := bind_inv hc
  cases hc
  replace hn : t4 ≠ [] := hn
  have e6 := want_le h6 hn
  have e5 := want_le h5 (tail_ne e6)
  have e4 : t2 ≠ [] := len_ne (by have := paramsP_len _ _ _ _ _ h4; have := ne_len e5; omega)
  have e3 := want_le h3 e4
  have e2 : t1 ≠ [] := tail_ne (by rw [← (nameP_ok h2).2.2]; exact e3)
  obtain ⟨u1, k1, r1⟩ := want_sim (en' := en') h t1 h1 e2
  obtain ⟨m', k2, r2⟩ := name_sim (en' := en') r1 m h2 e3
  obtain ⟨u2, k3, r3⟩ := want_sim (en' := en') r2.2 t2 h3 e4
  obtain ⟨p', k4, r4⟩ := params_sim (us := us) (en := en) (en' := en') (t2.length + 1) (u2.length + 1) [] t2 u2 (by have := Ex.len r3; omega) r3 p h4 e5
  obtain ⟨u3, k5, r5⟩ := want_sim (en' := en') r4.2 t3 h5 (tail_ne e6)
  have hp := Ex.pk r5 (tail_ne e6)
  obtain ⟨u4, k6, r6⟩ := want_sim (en' := en') hp.2 t4 h6 hn
  refine ⟨(m'.1, p'.1, typeC (pk0 u3) true, u4), ?_, r2.1, r4.1, by rw [hp.1], r6⟩
  simp only [k1, Except.bind, k2, k3, k4, k5]
  rw [if_neg (by rw [hp.1]; exact c6)]
  simp only [k6]
def nrmF (f : SF) : SF := ⟨f.f0, f.f1, f.f2, f.f3.map (List.map nrm), 0⟩
theorem pk_nil (s : List UInt8) (hs : s ≠ []) (h : (pk0 ts).toList = s) : ts ≠ [] := by
  rintro rfl
  exact hs (((show (⟨#[]⟩ : ByteArray).toList = [] from ByteArray.toList_empty).symm.trans h).symm)
theorem func_sim {n : Int} (d : Int) (hd : n + d + ts.length ≤ 4096) (h : Ex us ts ts') {q : SF × Int × List Tk} (hq : funcP en n ts = .ok q) : ∃ q', funcP en' (n + d) ts' = .ok q' ∧ nrmF q.1 = nrmF q'.1 ∧ q'.2.1 = q.2.1 + d ∧ Ex us q.2.2 q'.2.2 ∧ n ≤ q.2.1 ∧ q.2.1 + q.2.2.length ≤ n + ts.length := by
  unfold funcP at hq ⊢
  obtain ⟨a, h1, hq⟩ := bind_inv hq
  obtain ⟨b, h2, hq⟩ := bind_inv hq
  obtain ⟨u, h3, hq⟩ := bind_inv hq
  cases hq
  have w3 := wantP_ok h3
  have e3 : b.2.2 ≠ [] := pk_nil _ (by simp) w3.1
  have l2 := n_blocks _ _ _ _ _ _ h2 e3
  have e2 : a.2.2.2 ≠ [] := len_ne (by have := ne_len e3; omega)
  have l1 := headP_len h1
  obtain ⟨a', k1, r1⟩ := head_sim (en' := en') h a h1 e2
  obtain ⟨b', k2, r2⟩ := blocks_sim (us := us) (en := en) (en' := en') d (a.2.2.2.length + 1) (a'.2.2.2.length + 1) [] [] n a.2.2.2 a'.2.2.2 (by have := Ex.len r1.2.2.2; omega) rfl (by omega) r1.2.2.2 b h2 e3
  have hp := Ex.pk r2.2.2 e3
  have k3 : wantP en' [125] b'.2.2 = .ok b'.2.2.tail := by
    unfold wantP
    rw [hp.1, if_pos w3.1]
  refine ⟨(⟨a'.1, a'.2.1, a'.2.2.1, b'.1, hereP en' ts'⟩, b'.2.1, b'.2.2.tail), ?_, ?_, r2.2.1, ?_, l2.1, ?_⟩
  · simp only [k1, Except.bind, k2, k3]
  · unfold nrmF
    rw [r1.1, r1.2.1, r1.2.2.1, r2.1]
  · show Ex us u _
    rw [w3.2]
    exact hp.2
  · have := tail_le b.2.2
    rw [← w3.2] at this
    show b.2.1 + (u.length : Int) ≤ _
    omega
theorem func_size {n : Int} {q : SF × Int × List Tk} (hq : funcP en n ts = .ok q) : q.2.2.length < ts.length := by
  unfold funcP at hq
  obtain ⟨a, h1, hq⟩ := bind_inv hq
  obtain ⟨b, h2, hq⟩ := bind_inv hq
  obtain ⟨u, h3, hq⟩ := bind_inv hq
  cases hq
  have w3 := wantP_ok h3
  have e3 : b.2.2 ≠ [] := pk_nil _ (by simp) w3.1
  have l2 := n_blocks _ _ _ _ _ _ h2 e3
  have l1 := headP_len h1
  have := tail_le b.2.2
  rw [← w3.2] at this
  show u.length < _
  omega
theorem text_sim (d : Int) : ∀ (m : Nat) (fs fs' : List SF) (n : Int) (ts ts' : List Tk) (gs : List SF), textP en m fs n ts = .ok gs → fs.length ≤ fs'.length → gs.length + (fs'.length - fs.length) ≤ 32 → 0 ≤ n → n + d + ts.length ≤ 4096 → Ex us ts ts' →
    ∃ (gs' ws : List SF) (n' : Int) (u' : List Tk), gs = fs ++ ws ∧ gs'.map nrmF = fs'.map nrmF ++ ws.map nrmF ∧ u'.map (·.f0) = us ∧ 0 ≤ n' ∧ n' ≤ n + ts.length ∧ ∀ m', ts'.length < m' → ∃ m'', u'.length < m'' ∧ textP en' m' fs' (n + d) ts' = textP en' m'' gs' (n' + d) u'
  | 0, _, _, _, _, _, _, h, _, _, _, _, _ => by cases h
  | m + 1, fs, fs', n, ts, ts', gs, h, hf, hg, hn, hd, he => by
    simp only [textP] at h
    by_cases c0 : ts = []
    · rw [if_pos c0] at h
      cases h
      subst c0
      refine ⟨fs', [], n, ts', by simp, by simp, by simpa [Ex] using he, hn, by simp, fun m' hm => ⟨m', hm, rfl⟩⟩
    rw [if_neg c0] at h
    by_cases c1 : fs.length ≥ 32
    · rw [if_pos c1] at h; cases h
    rw [if_neg c1] at h
    obtain ⟨q, hq, h⟩ := bind_inv h
    obtain ⟨q', hq', s1, s2, s3, s4, s5⟩ := func_sim (en' := en') d hd he hq
    obtain ⟨gs', ws, n', u', g1, g2, g3, g4, g5, g6⟩ := text_sim d m (fs ++ [q.1]) (fs' ++ [q'.1]) q.2.1 q.2.2 q'.2.2 gs h (by simp; omega) (by simp; omega) (by omega) (by omega) s3
    have hlen : fs.length + 1 ≤ gs.length := by rw [g1]; simp
    refine ⟨gs', q.1 :: ws, n', u', by rw [g1]; simp, by rw [g2, List.map_append, List.map_cons, List.map_nil, List.map_cons, s1]; simp, g3, g4, by omega, fun m' hm => ?_⟩
    have hts' : ts' ≠ [] := len_ne (by have := he.len; have := ne_len c0; omega)
    obtain ⟨k, rfl⟩ : ∃ k, m' = k + 1 := ⟨m' - 1, by omega⟩
    obtain ⟨m'', h1, h2⟩ := g6 k (by have := func_size hq'; omega)
    refine ⟨m'', h1, ?_⟩
    rw [← h2]
    simp only [textP]
    rw [if_neg hts', if_neg (by omega), hq']
    show textP en' k (fs' ++ [q'.1]) q'.2.1 q'.2.2 = _
    rw [s2]
end
end Go.Proofs.Ytkjdblbgmomieaa.PSh
end
-- from YtkjdblbgmomieaaPNz
section
namespace Go.Proofs.Ytkjdblbgmomieaa.PSh
open Go.RowKit Go.Proofs.YtkjdblbgmomieaaW.PrintWords Go.Proofs.YtkjdblbgmomieaaW.PrintLast Go.Proofs.YtkjdblbgmomieaaW.PrintMore Go.Proofs.Ytkjdblbgmomieaa.Str Go.Proofs.Ytkjdblbgmomieaa.Dig Go.Proofs.Ytkjdblbgmomieaa.DigLaw
set_option linter.unusedVariables false
set_option linter.unusedSimpArgs false
def Nz {γ : Type} (x : PE γ) : Prop := ∀ q, x = .error q → q.1 ≠ 0
theorem Nz.bind {α β : Type} {x : PE α} {f : α → PE β} (h : Nz x) (hf : ∀ a, x = .ok a → Nz (f a)) : Nz (Except.bind x f) := by
  cases x with
  | error q => intro p hp; cases hp; exact h q rfl
  | ok a => exact hf a rfl
theorem Nz.ok {γ : Type} {a : γ} : Nz (.ok a : PE γ) := fun q h => by cases h
theorem Nz.fail {γ : Type} {en c : Int} {ts : List Tk} (h : c ≠ 0) : Nz (failP en ts c : PE γ) := fun q hq => by cases hq; exact h
section
variable {en : Int} {ts : List Tk}
theorem want_nz {s : List UInt8} : Nz (wantP en s ts) := by
  unfold wantP; split
  · exact Nz.ok
  · exact Nz.fail (by decide)
theorem name_nz : Nz (nameP en ts) := by
  unfold nameP; split
  · exact Nz.ok
  · exact Nz.fail (by decide)
theorem index_nz {sign most c : Int} (hc : c ≠ 0) : Nz (indexP en sign most c ts) := by
  unfold indexP; split
  · exact Nz.fail hc
  split
  · exact Nz.fail hc
  split
  · exact Nz.ok
  · exact Nz.fail hc
theorem value_nz : Nz (valueP en ts) := index_nz (by decide)
theorem label_nz : Nz (labelP en ts) := index_nz (by decide)
theorem number_nz {low high : Int} : Nz (numberP en low high ts) := by
  unfold numberP; split
  · exact Nz.ok
  · next h => exact Nz.fail h
end
theorem phi_nz (en : Int) : ∀ (m : Nat) (xa xt : List Int) (ts : List Tk), ts.length < m → Nz (phiP en m xa xt ts)
  | 0, _, _, _, h => by omega
  | m + 1, xa, xt, ts, h => by
    simp only [phiP]
    split
    · refine label_nz.bind fun b hb => value_nz.bind fun v hv => ?_
      have h1 := (indexP_ok (show indexP en 98 255 7 ts = .ok (b.1, b.2) from hb)).2
      have h2 := index_le hv
      exact phi_nz en m _ _ _ (by omega)
    · exact Nz.ok
theorem args_nz (en : Int) : ∀ (m : Nat) (xa : List Int) (ts : List Tk), ts.length < m → Nz (argsP en m xa ts)
  | 0, _, _, h => by omega
  | m + 1, xa, ts, h => by
    simp only [argsP]
    split
    · refine value_nz.bind fun v hv => ?_
      have h2 := (indexP_ok (show indexP en 37 1048576 8 ts = .ok (v.1, v.2) from hv)).2
      exact args_nz en m _ _ (by omega)
    · exact Nz.ok
theorem take_nz (en : Int) : ∀ (m : Nat) (xa : List Int) (ts : List Tk), Nz (takeP en m xa ts)
  | 0, _, _ => Nz.ok
  | m + 1, xa, ts => by
    simp only [takeP]
    exact value_nz.bind fun v hv => take_nz en m _ _
section
variable {en : Int} {ts : List Tk}
theorem call_nz : Nz (callP en ts) := by
  unfold callP
  refine Nz.bind ?_ fun q _ => name_nz.bind fun m _ => (args_nz _ _ _ _ (by omega)).bind fun a _ => Nz.ok
  split
  · exact index_nz (by decide)
  · exact Nz.ok
theorem oper_nz {op : Int} : Nz (operP en op ts) := by
  unfold operP
  by_cases k0 : op = 1
  · rw [if_pos k0]; exact number_nz.bind fun _ _ => Nz.ok
  rw [if_neg k0]
  by_cases k1 : op = 10
  · rw [if_pos k1]; split
    · exact Nz.ok
    · next h => exact Nz.fail h
  rw [if_neg k1]
  by_cases k2 : op = 11 ∨ op = 12 ∨ op = 15
  · rw [if_pos k2]; exact value_nz.bind fun _ _ => number_nz.bind fun _ _ => Nz.ok
  rw [if_neg k2]
  by_cases k3 : op = 13 ∨ op = 14
  · rw [if_pos k3]; exact value_nz.bind fun _ _ => number_nz.bind fun _ _ => value_nz.bind fun _ _ => Nz.ok
  rw [if_neg k3]
  by_cases k4 : op = 20
  · rw [if_pos k4]; exact (phi_nz _ _ _ _ _ (by omega)).bind fun _ _ => Nz.ok
  rw [if_neg k4]
  by_cases k5 : op = 21
  · rw [if_pos k5]; exact call_nz
  rw [if_neg k5]
  by_cases k6 : op = 23
  · rw [if_pos k6]; exact number_nz.bind fun _ _ => Nz.ok
  rw [if_neg k6]
  by_cases k7 : op = 24
  · rw [if_pos k7]; exact value_nz.bind fun _ _ => number_nz.bind fun _ _ => Nz.ok
  rw [if_neg k7]
  by_cases k8 : op = 26
  · rw [if_pos k8]; exact label_nz.bind fun _ _ => Nz.ok
  rw [if_neg k8]
  by_cases k9 : op = 27
  · rw [if_pos k9]; exact value_nz.bind fun _ _ => label_nz.bind fun _ _ => label_nz.bind fun _ _ => Nz.ok
  rw [if_neg k9]
  by_cases k10 : op = 28
  · rw [if_pos k10]; split
    · exact value_nz.bind fun _ _ => Nz.ok
    · exact Nz.ok
  rw [if_neg k10]
  by_cases k11 : op = 29
  · rw [if_pos k11]; exact number_nz.bind fun _ _ => Nz.ok
  rw [if_neg k11]
  exact (take_nz _ _ _ _).bind fun _ _ => Nz.ok
theorem instr_nz : Nz (instrP en ts) := by
  unfold instrP
  refine Nz.bind ?_ fun i _ => ?_
  · unfold idP; split
    · exact value_nz.bind fun _ _ => Nz.ok
    · exact Nz.ok
  · split
    · exact Nz.fail (by decide)
    split
    · exact Nz.fail (by decide)
    exact oper_nz.bind fun _ _ => Nz.ok
end
theorem code_nz (en : Int) : ∀ (m : Nat) (acc : List SI) (n : Int) (ts : List Tk), ts.length < m → Nz (codeP en m acc n ts)
  | 0, _, _, _, h => by omega
  | m + 1, acc, n, ts, h => by
    simp only [codeP]
    split
    · split
      · exact Nz.fail (by decide)
      · exact instr_nz.bind fun x hx => code_nz en m _ _ _ (by have := instrP_len hx; omega)
    · exact Nz.ok
theorem block_nz {en k n : Int} {ts : List Tk} : Nz (blockP en k n ts) := by
  unfold blockP
  split
  · exact Nz.fail (by decide)
  split
  · exact want_nz.bind fun u _ => code_nz _ _ _ _ _ (by omega)
  · exact Nz.fail (by decide)
theorem blocks_nz (en : Int) : ∀ (m : Nat) (bs : List (List SI)) (n : Int) (ts : List Tk), ts.length < m → 0 ≤ n → n ≤ 4096 → Nz (blocksP en m bs n ts)
  | 0, _, _, _, h, _, _ => by omega
  | m + 1, bs, n, ts, h, h0, h1 => by
    simp only [blocksP]
    split
    · exact Nz.ok
    · refine block_nz.bind fun b hb => ?_
      have := blockP_len hb h0 h1
      exact blocks_nz en m _ _ _ (by omega) this.2.1 this.2.2
theorem params_nz (en : Int) : ∀ (m : Nat) (ps : List Int) (ts : List Tk), ts.length < m → Nz (paramsP en m ps ts)
  | 0, _, _, h => by omega
  | m + 1, ps, ts, h => by
    simp only [paramsP]
    split
    · exact Nz.ok
    split
    · exact Nz.fail (by decide)
    next c =>
    split
    · exact Nz.fail (by decide)
    cases ts with
    | nil =>
      exfalso
      apply c
      rw [show typeC (pk0 []) false = -1 from by
        unfold typeC
        rw [show (pk0 []).toList = [] from ByteArray.toList_empty, if_neg (by simp), if_neg (by simp), if_neg (by simp)]]
      decide
    | cons t ts => exact params_nz en m _ _ (by simp at h ⊢; omega)
theorem func_nz {en n : Int} {ts : List Tk} (h0 : 0 ≤ n) (h1 : n ≤ 4096) : Nz (funcP en n ts) := by
  unfold funcP
  refine Nz.bind ?_ fun h _ => (blocks_nz _ _ _ _ _ (by omega) h0 h1).bind fun b _ => want_nz.bind fun _ _ => Nz.ok
  unfold headP
  refine want_nz.bind fun _ _ => name_nz.bind fun _ _ => want_nz.bind fun _ _ => (params_nz _ _ _ _ (by omega)).bind fun _ _ => want_nz.bind fun _ _ => ?_
  split
  · exact Nz.fail (by decide)
  · exact want_nz.bind fun _ _ => Nz.ok
theorem text_nz (en : Int) : ∀ (m : Nat) (fs : List SF) (n : Int) (ts : List Tk), ts.length < m → 0 ≤ n → n ≤ 4096 → Nz (textP en m fs n ts)
  | 0, _, _, _, h, _, _ => by omega
  | m + 1, fs, n, ts, h, h0, h1 => by
    simp only [textP]
    split
    · exact Nz.ok
    split
    · exact Nz.fail (by decide)
    · refine (func_nz h0 h1).bind fun q hq => ?_
      have := funcP_len hq h0 h1
      exact text_nz en m _ _ _ (by omega) this.2.1 this.2.2
end Go.Proofs.Ytkjdblbgmomieaa.PSh
end
-- from YtkjdblbgmomieaaPNum
section
namespace Go.Proofs.Ytkjdblbgmomieaa.PSh
open Go.RowKit Go.Proofs.YtkjdblbgmomieaaW.PrintWords Go.Proofs.YtkjdblbgmomieaaW.PrintLast Go.Proofs.YtkjdblbgmomieaaW.PrintMore Go.Proofs.Ytkjdblbgmomieaa.Str Go.Proofs.Ytkjdblbgmomieaa.Dig Go.Proofs.Ytkjdblbgmomieaa.DigLaw
set_option linter.unusedVariables false
set_option linter.unusedSimpArgs false
theorem phi_num (en : Int) : ∀ (m : Nat) (xa xt : List Int) (ts : List Tk) (q : List Int × List Int × List Tk), phiP en m xa xt ts = .ok q → q.1.length ≤ xa.length + ts.length ∧ q.2.1.length ≤ xt.length + ts.length
  | 0, _, _, _, _, h => by cases h
  | m + 1, xa, xt, ts, q, h => by
    simp only [phiP] at h
    split at h
    · obtain ⟨⟨b, t1⟩, hb, h⟩ := bind_inv h
      obtain ⟨⟨v, t2⟩, hv, h⟩ := bind_inv h
      have h1 := (indexP_ok hb).2
      have h2 := (indexP_ok hv).2
      have h3 := phi_num en m _ _ _ _ h
      simp only at h1 h2
      simp at h3
      omega
    · cases h; simp
theorem args_num (en : Int) : ∀ (m : Nat) (xa : List Int) (ts : List Tk) (q : List Int × List Tk), argsP en m xa ts = .ok q → q.1.length ≤ xa.length + ts.length
  | 0, _, _, _, h => by cases h
  | m + 1, xa, ts, q, h => by
    simp only [argsP] at h
    split at h
    · obtain ⟨⟨v, t2⟩, hv, h⟩ := bind_inv h
      have h2 := (indexP_ok hv).2
      have h3 := args_num en m _ _ _ h
      simp at h3
      omega
    · cases h; simp
theorem take_num (en : Int) : ∀ (m : Nat) (xa : List Int) (ts : List Tk) (q : List Int × List Tk), takeP en m xa ts = .ok q → q.1.length ≤ xa.length + ts.length
  | 0, _, _, _, h => by simp only [takeP] at h; cases h; simp
  | m + 1, xa, ts, q, h => by
    simp only [takeP] at h
    obtain ⟨⟨v, t2⟩, hv, h⟩ := bind_inv h
    have h2 := (indexP_ok hv).2
    have h3 := take_num en m _ _ _ h
    simp at h3
    omega
def Few (L : Nat) (x : SI) : Prop := x.f4.length ≤ L ∧ x.f5.length ≤ L
theorem call_num {en : Int} {ts : List Tk} {q : OpR × List Tk} (h : callP en ts = .ok q) : q.1.xa.length ≤ ts.length + 2 ∧ q.1.xt.length ≤ ts.length + 2 := by
  unfold callP at h
  obtain ⟨i, hi, h⟩ := bind_inv h
  obtain ⟨m, hm, h⟩ := bind_inv h
  obtain ⟨a, ha, h⟩ := bind_inv h
  cases h
  have h1 := args_num _ _ _ _ _ ha
  have h2 := (nameP_ok hm).2.2
  have h3 := tail_le i.2
  rw [← h2] at h3
  have h4 : i.2.length ≤ ts.length := by
    split at hi
    · exact index_le hi
    · cases hi; exact Nat.le_refl _
  simp at h1 ⊢
  omega
theorem oper_num {en op : Int} {ts : List Tk} {q : OpR × List Tk} (h : operP en op ts = .ok q) : q.1.xa.length ≤ ts.length + 2 ∧ q.1.xt.length ≤ ts.length + 2 := by
  unfold operP at h
  by_cases k0 : op = 1
  · rw [if_pos k0] at h
    obtain ⟨a, ha, h⟩ := bind_inv h
    cases h; simp
  rw [if_neg k0] at h
  by_cases k1 : op = 10
  · rw [if_pos k1] at h
    split at h
    · cases h; simp
    · cases h
  rw [if_neg k1] at h
  by_cases k2 : op = 11 ∨ op = 12 ∨ op = 15
  · rw [if_pos k2] at h
    obtain ⟨a, ha, h⟩ := bind_inv h
    obtain ⟨b, hb, h⟩ := bind_inv h
    cases h; simp
  rw [if_neg k2] at h
  by_cases k3 : op = 13 ∨ op = 14
  · rw [if_pos k3] at h
    obtain ⟨a, ha, h⟩ := bind_inv h
    obtain ⟨b, hb, h⟩ := bind_inv h
    obtain ⟨c, hc, h⟩ := bind_inv h
    cases h; simp
  rw [if_neg k3] at h
  by_cases k4 : op = 20
  · rw [if_pos k4] at h
    obtain ⟨a, ha, h⟩ := bind_inv h
    have h1 := phi_num _ _ _ _ _ _ ha
    cases h
    simp at h1 ⊢
    omega
  rw [if_neg k4] at h
  by_cases k5 : op = 21
  · rw [if_pos k5] at h; exact call_num h
  rw [if_neg k5] at h
  by_cases k6 : op = 23
  · rw [if_pos k6] at h
    obtain ⟨a, ha, h⟩ := bind_inv h
    cases h; simp
  rw [if_neg k6] at h
  by_cases k7 : op = 24
  · rw [if_pos k7] at h
    obtain ⟨a, ha, h⟩ := bind_inv h
    obtain ⟨b, hb, h⟩ := bind_inv h
    cases h; simp
  rw [if_neg k7] at h
  by_cases k8 : op = 26
  · rw [if_pos k8] at h
    obtain ⟨a, ha, h⟩ := bind_inv h
    cases h; simp
  rw [if_neg k8] at h
  by_cases k9 : op = 27
  · rw [if_pos k9] at h
    obtain ⟨a, ha, h⟩ := bind_inv h
    obtain ⟨b, hb, h⟩ := bind_inv h
    obtain ⟨c, hc, h⟩ := bind_inv h
    cases h; simp
  rw [if_neg k9] at h
  by_cases k10 : op = 28
  · rw [if_pos k10] at h
    split at h
    · obtain ⟨a, ha, h⟩ := bind_inv h
      cases h; simp
    · cases h; simp
  rw [if_neg k10] at h
  by_cases k11 : op = 29
  · rw [if_pos k11] at h
    obtain ⟨a, ha, h⟩ := bind_inv h
    cases h; simp
  rw [if_neg k11] at h
  obtain ⟨a, ha, h⟩ := bind_inv h
  have h1 := take_num _ _ _ _ _ ha
  cases h
  simp at h1 ⊢
  omega
theorem instr_num {en : Int} {ts : List Tk} {q : SI × List Tk} {L : Nat} (h : instrP en ts = .ok q) (hL : ts.length + 2 ≤ L) : Few L q.1 := by
  unfold instrP at h
  obtain ⟨i, hi, h⟩ := bind_inv h
  split at h
  · cases h
  split at h
  · cases h
  obtain ⟨r, hr, h⟩ := bind_inv h
  cases h
  have h1 := oper_num hr
  have h2 := idP_len hi
  have h3 := tail_le i.2
  exact ⟨by show r.1.xa.length ≤ L; omega, by show r.1.xt.length ≤ L; omega⟩
theorem code_num {L : Nat} (en : Int) : ∀ (m : Nat) (acc : List SI) (n : Int) (ts : List Tk) (q : List SI × Int × List Tk), codeP en m acc n ts = .ok q → ts.length + 2 ≤ L → (∀ x ∈ acc, Few L x) → (∀ x ∈ q.1, Few L x) ∧ q.1.length ≤ acc.length + ts.length ∧ q.2.2.length ≤ ts.length
  | 0, _, _, _, _, h, _, _ => by cases h
  | m + 1, acc, n, ts, q, h, hL, ha => by
    simp only [codeP] at h
    split at h
    · split at h
      · cases h
      · obtain ⟨x, hx, h⟩ := bind_inv h
        have h1 := instr_num hx hL
        have h2 := instrP_len hx
        have h3 := code_num (L := L) en m _ _ _ _ h (by omega) (fun y hy => by
          rcases List.mem_append.mp hy with hy | hy
          · exact ha y hy
          · rw [List.mem_singleton.mp hy]; exact h1)
        refine ⟨h3.1, ?_, by omega⟩
        have := h3.2.1
        simp at this
        omega
    · cases h; exact ⟨ha, by simp, by simp⟩
def FewB (L : Nat) (b : List SI) : Prop := b.length ≤ L ∧ ∀ x ∈ b, Few L x
theorem block_num {en k n : Int} {L : Nat} {ts : List Tk} {q : List SI × Int × List Tk} (h : blockP en k n ts = .ok q) (hL : ts.length + 2 ≤ L) : FewB L q.1 ∧ q.2.2.length ≤ ts.length ∧ k < 256 := by
  unfold blockP at h
  split at h
  · cases h
  split at h
  · obtain ⟨u, hu, h⟩ := bind_inv h
    have h2 := (wantP_ok hu).2
    have h3 := tail_le ts.tail
    have h4 := tail_le ts
    subst h2
    have h1 := code_num _ _ _ _ _ _ h (L := L) (by omega) (fun _ h => by cases h)
    refine ⟨⟨?_, h1.1⟩, by omega, by omega⟩
    have := h1.2.1
    simp at this
    omega
  · cases h
theorem blocks_num {L : Nat} (en : Int) : ∀ (m : Nat) (bs : List (List SI)) (n : Int) (ts : List Tk) (q : List (List SI) × Int × List Tk), blocksP en m bs n ts = .ok q → ts.length + 2 ≤ L → bs.length ≤ 256 → (∀ b ∈ bs, FewB L b) → q.1.length ≤ 256 ∧ (∀ b ∈ q.1, FewB L b) ∧ q.2.2.length ≤ ts.length
  | 0, _, _, _, _, h, _, _, _ => by cases h
  | m + 1, bs, n, ts, q, h, hL, hb, ha => by
    simp only [blocksP] at h
    split at h
    · cases h; exact ⟨hb, ha, Nat.le_refl _⟩
    · obtain ⟨b, hx, h⟩ := bind_inv h
      have h1 := block_num hx hL
      have h3 := blocks_num (L := L) en m _ _ _ _ h (by omega) (by simp; omega) (fun y hy => by
        rcases List.mem_append.mp hy with hy | hy
        · exact ha y hy
        · rw [List.mem_singleton.mp hy]; exact h1.1)
      exact ⟨h3.1, h3.2.1, by omega⟩
theorem params_num (en : Int) : ∀ (m : Nat) (ps : List Int) (ts : List Tk) (q : List Int × List Tk), paramsP en m ps ts = .ok q → ps.length ≤ 8 → q.1.length ≤ 8
  | 0, _, _, _, h, _ => by cases h
  | m + 1, ps, ts, q, h, hp => by
    simp only [paramsP] at h
    split at h
    · cases h; exact hp
    split at h
    · cases h
    split at h
    · cases h
    exact params_num en m _ _ _ h (by simp; omega)
def FewF (L : Nat) (f : SF) : Prop := f.f1.length ≤ 8 ∧ f.f3.length ≤ 256 ∧ ∀ b ∈ f.f3, FewB L b
theorem func_num {en n : Int} {L : Nat} {ts : List Tk} {q : SF × Int × List Tk} (h : funcP en n ts = .ok q) (hL : ts.length + 2 ≤ L) : FewF L q.1 := by
  unfold funcP at h
  obtain ⟨a, h1, h⟩ := bind_inv h
  obtain ⟨b, h2, h⟩ := bind_inv h
  obtain ⟨u, h3, h⟩ := bind_inv h
  cases h
  have l1 := headP_len h1
  have l2 := blocks_num _ _ _ _ _ _ h2 (L := L) (by omega) (by simp) (fun _ h => by cases h)
  refine ⟨?_, l2.1, l2.2.1⟩
  unfold headP at h1
  obtain ⟨t1, k1, h1⟩ := bind_inv h1
  obtain ⟨m, k2, h1⟩ := bind_inv h1
  obtain ⟨t2, k3, h1⟩ := bind_inv h1
  obtain ⟨p, k4, h1⟩ := bind_inv h1
  obtain ⟨t3, k5, h1⟩ := bind_inv h1
  split at h1
  · cases h1
  obtain ⟨t4, k6, h1⟩ := bind_inv h1
  cases h1
  exact params_num _ _ _ _ _ k4 (by simp)
theorem text_num {en : Int} {L : Nat} : ∀ (m : Nat) (fs : List SF) (n : Int) (ts : List Tk) (gs : List SF), textP en m fs n ts = .ok gs → ts.length + 2 ≤ L → fs.length ≤ 32 → (∀ f ∈ fs, FewF L f) → gs.length ≤ 32 ∧ ∀ f ∈ gs, FewF L f
  | 0, _, _, _, _, h, _, _, _ => by cases h
  | m + 1, fs, n, ts, gs, h, hL, hl, ha => by
    simp only [textP] at h
    split at h
    · cases h; exact ⟨hl, ha⟩
    split at h
    · cases h
    obtain ⟨q, hq, h⟩ := bind_inv h
    have h2 := func_size hq
    exact text_num m _ _ _ _ h (by omega) (by simp; omega) (fun y hy => by
      rcases List.mem_append.mp hy with hy | hy
      · exact ha y hy
      · rw [List.mem_singleton.mp hy]; exact func_num hq hL)
end Go.Proofs.Ytkjdblbgmomieaa.PSh
end
-- from YtkjdblbgmomieaaPFine
section
namespace Go.Proofs.Ytkjdblbgmomieaa.PSh
open Go.RowKit Go.Proofs.YtkjdblbgmomieaaW.PrintWords Go.Proofs.YtkjdblbgmomieaaW.PrintLast Go.Proofs.YtkjdblbgmomieaaW.PrintMore Go.Proofs.Ytkjdblbgmomieaa.Str Go.Proofs.Ytkjdblbgmomieaa.Dig Go.Proofs.Ytkjdblbgmomieaa.DigLaw
set_option linter.unusedVariables false
set_option linter.unusedSimpArgs false
def Bd (en : Int) (ts : List Tk) : Prop := 0 ≤ en ∧ ∀ t ∈ ts, 0 ≤ t.f1 ∧ t.f1 < en
section
variable {α β : Type} {en : Int} {ts : List Tk}
theorem Bd.tail (h : Bd en ts) : Bd en ts.tail := ⟨h.1, fun t ht => h.2 t (List.mem_of_mem_tail ht)⟩
end
end Go.Proofs.Ytkjdblbgmomieaa.PSh
end
-- from YtkjdblbgmomieaaPStand
section
namespace Go.Proofs.Ytkjdblbgmomieaa.PSh
open Go.RowKit Go.Proofs.YtkjdblbgmomieaaW.PrintWords Go.Proofs.YtkjdblbgmomieaaW.PrintLast Go.Proofs.YtkjdblbgmomieaaW.PrintMore Go.Proofs.Ytkjdblbgmomieaa.Str Go.Proofs.Ytkjdblbgmomieaa.Dig Go.Proofs.Ytkjdblbgmomieaa.DigLaw
set_option linter.unusedVariables false
set_option linter.unusedSimpArgs false
section
variable {en : Int} {ts : List Tk}
end
theorem stand_lt {s : ByteArray} : ∀ {l : List Tok} {a b : Int}, Stand s a l b → ∀ t ∈ l, a ≤ t.f1 ∧ t.f1 < s.size := by
  intro l
  induction l with
  | nil => intro a b _ t ht; cases ht
  | cons x l ih =>
    intro a b h t ht
    rcases List.mem_cons.mp ht with rfl | ht
    · exact ⟨h.1, by have := h.2.1; have := h.2.2.1; omega⟩
    · have := ih h.2.2.2.2 t ht
      exact ⟨by have := h.1; omega, this.2⟩
theorem split_facts {s : ByteArray} (hs : s.size ≤ 65536) : fewT (splitL s).1 = true ∧ (((splitL s).2.1 = 0 ∧ Bd (s.size : Int) (splitL s).1) ∨ ((splitL s).2.1 = 1 ∧ 0 ≤ (splitL s).2.2 ∧ (splitL s).2.2 < s.size)) := by
  have hsp : splitL s = splitGo s s.data.toList 0 (-1) false [] := if_neg (by omega)
  rw [hsp]
  obtain ⟨r1, r2, r3, hq⟩ : ∃ r1 r2 r3, splitGo s s.data.toList 0 (-1) false [] = (r1, r2, r3) := ⟨_, _, _, rfl⟩
  have h := split_stand s s.data.toList 0 (-1) false [] 0 r1 r2 r3 (by simp) (by omega) (Int.le_refl 0) (.inl ⟨rfl, by omega⟩) hq
  rw [hq]
  rcases h with ⟨h1, h2⟩ | ⟨h1, h2, h3, h4⟩
  · have hl := stand_len h2
    refine ⟨?_, .inl ⟨h1, by omega, fun t ht => ?_⟩⟩
    · unfold fewT
      rw [Bool.and_eq_true, decide_eq_true_iff, List.all_eq_true]
      exact ⟨by simp only; omega, fun t ht => decide_eq_true (by have := (stand_in h2 t ht).2; omega)⟩
    · exact stand_lt h2 t ht
  · refine ⟨?_, .inr ⟨h1, h3, h4⟩⟩
    rw [h2]; rfl
end Go.Proofs.Ytkjdblbgmomieaa.PSh
end
-- from YtkjdblbgmomieaaPJoin
section
namespace Go.Proofs.Ytkjdblbgmomieaa.PSh
open Go.RowKit Go.Proofs.YtkjdblbgmomieaaW.PrintWords Go.Proofs.YtkjdblbgmomieaaW.PrintLast Go.Proofs.YtkjdblbgmomieaaW.PrintMore Go.Proofs.Ytkjdblbgmomieaa.Str Go.Proofs.Ytkjdblbgmomieaa.Dig Go.Proofs.Ytkjdblbgmomieaa.DigLaw
set_option linter.unusedVariables false
set_option linter.unusedSimpArgs false
theorem parse_ok {s : ByteArray} (h : (parseP s).2.1 = 0) : (splitL s).2.1 = 0 ∧ textP (s.size : Int) ((splitL s).1.length + 1) [] 0 (splitL s).1 = .ok (parseP s).1 := by
  unfold parseP at h ⊢
  by_cases c : (splitL s).2.1 = 0
  · rw [if_pos c] at h
    rw [if_pos c]
    have hz := text_nz (s.size : Int) ((splitL s).1.length + 1) [] 0 (splitL s).1 (by omega) (by omega) (by omega)
    revert h hz
    cases textP (s.size : Int) ((splitL s).1.length + 1) [] 0 (splitL s).1 with
    | error x => intro h hz; exact absurd h (hz x rfl)
    | ok fs => intro h hz; exact ⟨c, rfl⟩
  · rw [if_neg c] at h
    exact absurd h c
theorem split_len {s : ByteArray} (hs : s.size ≤ 65536) (h : (splitL s).2.1 = 0) : (splitL s).1.length ≤ s.size := by
  have hsp : splitL s = splitGo s s.data.toList 0 (-1) false [] := if_neg (by omega)
  rw [hsp] at h ⊢
  obtain ⟨r1, r2, r3, hq⟩ : ∃ r1 r2 r3, splitGo s s.data.toList 0 (-1) false [] = (r1, r2, r3) := ⟨_, _, _, rfl⟩
  have h2 := split_stand s s.data.toList 0 (-1) false [] 0 r1 r2 r3 (by simp) (by omega) (Int.le_refl 0) (.inl ⟨rfl, by omega⟩) hq
  rw [hq] at h ⊢
  rcases h2 with ⟨h1, h2⟩ | ⟨h1, h2, h3, h4⟩
  · have hl := stand_len h2
    simp only
    omega
  · simp only at h
    omega
theorem parse_join {s t : ByteArray} (hs : s.size ≤ 1500) (ht : t.size ≤ 1500) (h1 : (parseP s).2.1 = 0) (h2 : (parseP t).2.1 = 0) (hl : (parseP s).1.length + (parseP t).1.length ≤ 32) : ∃ hs, parseP ((s ++ (⟨#[10]⟩ : ByteArray)) ++ t) = (hs, 0, 0) ∧ hs.map nrmF = ((parseP s).1 ++ (parseP t).1).map nrmF ∧ hs.length ≤ 32 ∧ ∀ f ∈ hs, FewF 100000 f := by
  obtain ⟨c1, t1⟩ := parse_ok h1
  obtain ⟨c2, t2⟩ := parse_ok h2
  have l1 := split_len (by omega) c1
  have l2 := split_len (by omega) c2
  have z1 := size_data s
  have z2 := size_data t
  have e : (s ++ (⟨#[10]⟩ : ByteArray)) ++ t = mk (s.data.toList ++ 10 :: t.data.toList) := by
    conv => lhs; rw [mk_data s, mk_data t]
    rw [show (⟨#[10]⟩ : ByteArray) = mk [10] from rfl, mk_append, mk_append]
    simp
  rw [e]
  have k := split_join s.data.toList t.data.toList (by rw [← mk_data s]; exact c1) (by rw [← mk_data t]; exact c2) (by omega)
  rw [← mk_data s, ← mk_data t] at k
  obtain ⟨o, ho, hm⟩ := k
  generalize hS : mk (s.data.toList ++ 10 :: t.data.toList) = S at ho ⊢
  have hol : o.length = (splitL s).1.length + (splitL t).1.length := by
    have := congrArg List.length hm
    simpa using this
  obtain ⟨gs1, ws1, n1, u1, g1, g2, g3, g4, g5, g6⟩ := text_sim (en' := (S.size : Int)) (us := (splitL t).1.map (fun x : Tk => x.f0)) 0 _ [] [] 0 (splitL s).1 o (parseP s).1 t1 (by simp) (by simp; omega) (by omega) (by omega) hm
  obtain ⟨gs2, ws2, n2, u2, k1, k2, k3, k4, k5, k6⟩ := text_sim (en' := (S.size : Int)) (us := []) n1 _ [] gs1 0 (splitL t).1 u1 (parseP t).1 t2 (by simp) (by
    have := congrArg List.length g2
    rw [g1] at hl
    simp at this hl ⊢
    omega) (by omega) (by omega) (by show u1.map (·.f0) = _; rw [g3, List.append_nil])
  obtain ⟨m1, p1, p2⟩ := g6 (o.length + 1) (by omega)
  obtain ⟨m2, p3, p4⟩ := k6 m1 p1
  have hu : u2 = [] := List.map_eq_nil_iff.1 k3
  subst hu
  have hfin : textP (S.size : Int) (o.length + 1) [] 0 o = .ok gs2 := by
    rw [show (0 : Int) = 0 + 0 by omega, p2, show n1 + 0 = 0 + n1 by omega, p4]
    obtain ⟨m3, rfl⟩ : ∃ m3, m2 = m3 + 1 := ⟨m2 - 1, by simp at p3; omega⟩
    simp only [textP]
    rw [if_pos trivial]
  have hnum := text_num (L := 100000) _ _ _ _ _ hfin (by omega) (by simp) (fun _ h => by cases h)
  refine ⟨gs2, ?_, ?_, hnum.1, hnum.2⟩
  · unfold parseP
    rw [ho]
    show (if (0 : Int) = 0 then _ else _) = _
    rw [if_pos rfl]
    show (match textP (S.size : Int) (o.length + 1) [] 0 o with
      | .ok fs => (fs, 0, 0)
      | .error x => ([], x.1, x.2)) = _
    rw [hfin]
  · rw [k2, g2, g1, k1]
    simp
end Go.Proofs.Ytkjdblbgmomieaa.PSh
end
