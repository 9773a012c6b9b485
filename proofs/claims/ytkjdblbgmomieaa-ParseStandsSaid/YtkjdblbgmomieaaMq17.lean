import Derived.Test.YtkjdblbgmomieaaMq15
import Derived.Test.YtkjdblbgmomieaaMq16
import Derived.KernelRfl
import Derived.Test.YtkjdblbgmomieaaMq7
import Derived.Test.YtkjdblbgmomieaaMq12
import Derived.Test.YtkjdblbgmomieaaRows
import Derived.WalkKit
import Derived.ProofKit
import Derived.OpenShut
import Derived.ShutString
import Derived.ChangeOld
import Derived.Below
import Derived.SizedLaws
-- from YtkjdblbgmomieaaSaidParseStands
section
namespace Go.Proofs.Ytkjdblbgmomieaa.ParseStandsSaid
open Go.RowKit Go.Proofs.Ytkjdblbgmomieaa.PSh Go.Proofs.Ytkjdblbgmomieaa.Open Go.Proofs.YtkjdblbgmomieaaW.PrintWords Go.Proofs.YtkjdblbgmomieaaW.PrintLast
set_option linter.unusedVariables false
def ParseStands.Good : Prop := ∀ (a0 : ByteArray), (a0.size ≤ 140737488351232) → ∃ k, turntablelaw06_ParseStands.f k a0 = some true
end Go.Proofs.Ytkjdblbgmomieaa.ParseStandsSaid
end
-- from YtkjdblbgmomieaaLiSplit
section
namespace Go.Proofs.Ytkjdblbgmomieaa.PSh
open Go.RowKit Go.Proofs.YtkjdblbgmomieaaW.PrintWords Go.Proofs.YtkjdblbgmomieaaW.PrintLast Go.Proofs.YtkjdblbgmomieaaW.PrintMore Go.Proofs.Ytkjdblbgmomieaa.Str
set_option linter.unusedVariables false
set_option linter.unusedSimpArgs false
def Stand (s : ByteArray) : Int → List Tok → Int → Prop
  | a, [], b => a ≤ b
  | a, t :: l, b => a ≤ t.f1 ∧ 0 < t.f0.size ∧ t.f1 + t.f0.size ≤ s.size ∧ s.extract t.f1.toNat (t.f1 + t.f0.size).toNat = t.f0 ∧ Stand s (t.f1 + t.f0.size) l b
theorem stand_snoc {s : ByteArray} {t : Tok} {b c : Int} : ∀ {l : List Tok} {a : Int}, Stand s a l b → b ≤ t.f1 → 0 < t.f0.size → t.f1 + t.f0.size ≤ s.size → s.extract t.f1.toNat (t.f1 + t.f0.size).toNat = t.f0 → t.f1 + t.f0.size ≤ c → Stand s a (l ++ [t]) c := by
  intro l
  induction l with
  | nil => intro a h h1 h2 h3 h4 h5; exact ⟨Int.le_trans h h1, h2, h3, h4, h5⟩
  | cons x l ih => intro a h h1 h2 h3 h4 h5; exact ⟨h.1, h.2.1, h.2.2.1, h.2.2.2.1, ih h.2.2.2.2 h1 h2 h3 h4 h5⟩
theorem stand_le {s : ByteArray} {b c : Int} (hbc : b ≤ c) : ∀ {l : List Tok} {a : Int}, Stand s a l b → Stand s a l c := by
  intro l
  induction l with
  | nil => intro a h; exact Int.le_trans h hbc
  | cons x l ih => intro a h; exact ⟨h.1, h.2.1, h.2.2.1, h.2.2.2.1, ih h.2.2.2.2⟩
theorem ext_size (s : ByteArray) (a b : Nat) (h : a ≤ b) (hb : b ≤ s.size) : (s.extract a b).size = b - a := by
  rw [ByteArray.size_extract]; omega
theorem stand_close {s : ByteArray} {fr : Int} {i : Nat} {out : List Tok} {e : Int} (h : Stand s 0 out e) (hi : i ≤ s.size) (hf : fr = -1 ∧ e ≤ i ∨ e ≤ fr ∧ 0 ≤ fr ∧ fr < i) : Stand s 0 (closeW s fr i out) i := by
  unfold closeW
  rcases hf with ⟨h1, h2⟩ | ⟨h1, h2, h3⟩
  · rw [if_pos (by omega)]; exact stand_le h2 h
  · rw [if_neg (by omega)]
    have hs : (s.extract fr.toNat i).size = i - fr.toNat := ext_size s _ _ (by omega) hi
    have hs2 : ((s.extract fr.toNat i).size : Int) = i - fr := by rw [hs]; omega
    refine stand_snoc h h1 (by show 0 < (s.extract fr.toNat i).size; omega) (by show fr + ((s.extract fr.toNat i).size : Int) ≤ _; omega) ?_ (by show fr + ((s.extract fr.toNat i).size : Int) ≤ _; omega)
    show s.extract fr.toNat (fr + ((s.extract fr.toNat i).size : Int)).toNat = s.extract fr.toNat i
    congr 1
    omega
theorem ext_one (s : ByteArray) (i : Nat) (c : UInt8) (l : List UInt8) (h : s.data.toList.drop i = c :: l) : s.extract i (i + 1) = mk [c] := by
  have e : s = mk s.data.toList := mk_data s
  have h2 : (s.data.toList.drop i).take 1 = [c] := by rw [h]; rfl
  rw [e, mk_extract]
  congr 1
  have : (List.take (i + 1) s.data.toList).drop i = List.take 1 (s.data.toList.drop i) := by
    rw [List.drop_take]; congr 1; omega
  rw [this, h2]
theorem split_stand (s : ByteArray) : ∀ (l : List UInt8) (i : Nat) (fr : Int) (noted : Bool) (out : List Tok) (e : Int) (r1 : List Tok) (r2 r3 : Int), s.data.toList.drop i = l → i ≤ s.size → Stand s 0 out e → (fr = -1 ∧ e ≤ i ∨ e ≤ fr ∧ 0 ≤ fr ∧ fr < i) →
    splitGo s l i fr noted out = (r1, r2, r3) → (r2 = 0 ∧ Stand s 0 r1 s.size) ∨ (r2 = 1 ∧ r1 = [] ∧ 0 ≤ r3 ∧ r3 < s.size) := by
  intro l
  induction l with
  | nil =>
    intro i fr noted out e r1 r2 r3 hd hi hs hf h
    rw [splitGo] at h
    obtain ⟨rfl, h2⟩ := Prod.mk.inj h
    obtain ⟨rfl, rfl⟩ := Prod.mk.inj h2
    exact .inl ⟨rfl, stand_le (by omega) (stand_close hs hi hf)⟩
  | cons c l ih =>
    intro i fr noted out e r1 r2 r3 hd hi hs hf h
    have hlt : i < s.size := by
      have h9 := congrArg List.length hd
      rw [List.length_drop, List.length_cons] at h9
      have : s.size = s.data.toList.length := rfl
      omega
    have hd2 : s.data.toList.drop (i + 1) = l := by
      rw [← List.drop_drop, hd]; rfl
    have hc := stand_close hs hi hf
    rw [splitGo] at h
    by_cases hn : noted = true
    · rw [if_pos hn] at h
      exact ih (i + 1) fr _ out e r1 r2 r3 hd2 hlt hs (by omega) h
    · rw [if_neg hn] at h
      by_cases h0 : kindR c.toNat = 0
      · rw [if_pos h0] at h
        exact ih (i + 1) (-1) _ _ i r1 r2 r3 hd2 hlt hc (.inl ⟨rfl, by omega⟩) h
      · rw [if_neg h0] at h
        by_cases h1 : kindR c.toNat = 1
        · rw [if_pos h1] at h
          refine ih (i + 1) (-1) _ _ ((i + 1 : Nat) : Int) r1 r2 r3 hd2 hlt (stand_snoc hc (Int.le_refl _) (by show 0 < (mk [c]).size; rw [mk_size]; exact Nat.one_pos) ?_ ?_ ?_) (.inl ⟨rfl, by omega⟩) h
          · show (i : Int) + ((mk [c]).size : Int) ≤ _; rw [mk_size, List.length_singleton]; omega
          · show s.extract i ((i : Int) + ((mk [c]).size : Int)).toNat = mk [c]
            rw [mk_size, List.length_singleton]
            exact ext_one s i c l hd
          · show (i : Int) + ((mk [c]).size : Int) ≤ _; rw [mk_size, List.length_singleton]; omega
        · rw [if_neg h1] at h
          by_cases h2 : kindR c.toNat = 2
          · rw [if_pos h2] at h
            by_cases hfr : fr < 0
            · rw [if_pos hfr] at h
              exact ih (i + 1) i _ _ e r1 r2 r3 hd2 hlt hs (.inr (by omega)) h
            · rw [if_neg hfr] at h
              exact ih (i + 1) fr _ _ e r1 r2 r3 hd2 hlt hs (by omega) h
          · rw [if_neg h2] at h
            by_cases h3 : kindR c.toNat = 3
            · rw [if_pos h3] at h
              exact ih (i + 1) (-1) _ _ i r1 r2 r3 hd2 hlt hc (.inl ⟨rfl, by omega⟩) h
            · rw [if_neg h3] at h
              obtain ⟨rfl, h4⟩ := Prod.mk.inj h
              obtain ⟨rfl, rfl⟩ := Prod.mk.inj h4
              exact .inr ⟨rfl, rfl, by omega, by omega⟩
theorem stand_in {s : ByteArray} : ∀ {l : List Tok} {a b : Int}, Stand s a l b → ∀ t ∈ l, a ≤ t.f1 ∧ t.f0.size ≤ s.size := by
  intro l
  induction l with
  | nil => intro a b _ t ht; cases ht
  | cons x l ih =>
    intro a b h t ht
    rcases List.mem_cons.mp ht with rfl | ht
    · exact ⟨h.1, by
        have := congrArg ByteArray.size h.2.2.2.1
        rw [ByteArray.size_extract] at this
        omega⟩
    · have := ih h.2.2.2.2 t ht
      exact ⟨by have := h.1; omega, this.2⟩
theorem stand_len {s : ByteArray} : ∀ {l : List Tok} {a b : Int}, Stand s a l b → (l.length : Int) ≤ b - a := by
  intro l
  induction l with
  | nil => intro a b h; have : a ≤ b := h; simp; omega
  | cons x l ih =>
    intro a b h
    have := ih h.2.2.2.2
    have h1 := h.1
    have h2 := h.2.1
    rw [List.length_cons]
    omega
end Go.Proofs.Ytkjdblbgmomieaa.PSh
end
-- from YtkjdblbgmomieaaPFine
section
namespace Go.Proofs.Ytkjdblbgmomieaa.PSh
open Go.RowKit Go.Proofs.YtkjdblbgmomieaaW.PrintWords Go.Proofs.YtkjdblbgmomieaaW.PrintLast Go.Proofs.YtkjdblbgmomieaaW.PrintMore Go.Proofs.Ytkjdblbgmomieaa.Str Go.Proofs.Ytkjdblbgmomieaa.Dig Go.Proofs.Ytkjdblbgmomieaa.DigLaw
set_option linter.unusedVariables false
set_option linter.unusedSimpArgs false
def Bd (en : Int) (ts : List Tk) : Prop := 0 ≤ en ∧ ∀ t ∈ ts, 0 ≤ t.f1 ∧ t.f1 < en
def Fine {α : Type} (en : Int) (x : PE α) (G : α → Prop) : Prop := match x with
  | .error q => 0 ≤ q.2 ∧ q.2 ≤ en
  | .ok a => G a
section
variable {α β : Type} {en : Int} {ts : List Tk}
theorem Fine.bind {x : PE α} {f : α → PE β} {G : α → Prop} {H : β → Prop} (h : Fine en x G) (hf : ∀ a, G a → Fine en (f a) H) : Fine en (Except.bind x f) H := by
  cases x with
  | error q => exact h
  | ok a => exact hf a h
theorem Bd.tail (h : Bd en ts) : Bd en ts.tail := ⟨h.1, fun t ht => h.2 t (List.mem_of_mem_tail ht)⟩
theorem here_in (h : Bd en ts) : 0 ≤ hereP en ts ∧ hereP en ts ≤ en := by
  cases ts with
  | nil => exact ⟨h.1, Int.le_refl _⟩
  | cons t ts => have := h.2 t (by simp); exact ⟨this.1, by show t.f1 ≤ en; omega⟩
theorem here_lt (h : Bd en ts) (hn : ts ≠ []) : hereP en ts < en := by
  cases ts with
  | nil => exact absurd rfl hn
  | cons t ts => exact (h.2 t (by simp)).2
theorem fine_fail {G : α → Prop} {c : Int} (h : Bd en ts) : Fine en (failP en ts c) G := here_in h
theorem fine_zero {G : α → Prop} (h : Bd en ts) : Fine en (.error (0, 0) : PE α) G := ⟨Int.le_refl _, h.1⟩
theorem want_fine {s : List UInt8} (h : Bd en ts) : Fine en (wantP en s ts) (fun us => Bd en us) := by
  unfold wantP
  split
  · exact h.tail
  · exact fine_fail h
theorem name_fine (h : Bd en ts) : Fine en (nameP en ts) (fun r => Bd en r.2 ∧ nameL r.1.data.toList = true) := by
  unfold nameP
  split
  · next c => exact ⟨h.tail, c⟩
  · exact fine_fail h
theorem index_fine {sign most c : Int} (h : Bd en ts) : Fine en (indexP en sign most c ts) (fun r => Bd en r.2 ∧ 0 ≤ r.1 ∧ r.1 ≤ most) := by
  unfold indexP
  split
  · exact fine_fail h
  split
  · exact fine_fail h
  split
  · next c3 =>
    refine ⟨h.tail, ?_⟩
    unfold idxC at c3 ⊢
    split at c3
    · split at c3
      · cases c3
      · next c4 c5 => rw [if_pos c4, if_neg c5]; simp only; omega
    · next c4 => exact absurd c3 c4
  · exact fine_fail h
theorem number_fine {low high : Int} (h : Bd en ts) : Fine en (numberP en low high ts) (fun r => Bd en r.2 ∧ low ≤ r.1 ∧ r.1 ≤ high) := by
  unfold numberP
  split
  · next c =>
    refine ⟨h.tail, ?_⟩
    unfold numC at c
    split at c
    · split at c
      · cases c
      · simp only; omega
    · next c4 => exact absurd c c4
  · exact fine_fail h
theorem value_fine (h : Bd en ts) : Fine en (valueP en ts) (fun r => Bd en r.2 ∧ 0 ≤ r.1 ∧ r.1 ≤ 1048576) := index_fine h
theorem label_fine (h : Bd en ts) : Fine en (labelP en ts) (fun r => Bd en r.2 ∧ 0 ≤ r.1 ∧ r.1 ≤ 255) := index_fine h
def Ids (l : List Int) : Prop := ∀ v ∈ l, 0 ≤ v ∧ v ≤ 1048576
def Labs (l : List Int) : Prop := ∀ v ∈ l, 0 ≤ v ∧ v ≤ 255
theorem ids_nil : Ids [] := fun _ h => by cases h
theorem labs_nil : Labs [] := fun _ h => by cases h
theorem ids_snoc {l : List Int} {v : Int} (h : Ids l) (hv : 0 ≤ v ∧ v ≤ 1048576) : Ids (l ++ [v]) := fun x hx => by
  rcases List.mem_append.mp hx with hx | hx
  · exact h x hx
  · rw [List.mem_singleton.mp hx]; exact hv
theorem labs_snoc {l : List Int} {v : Int} (h : Labs l) (hv : 0 ≤ v ∧ v ≤ 255) : Labs (l ++ [v]) := fun x hx => by
  rcases List.mem_append.mp hx with hx | hx
  · exact h x hx
  · rw [List.mem_singleton.mp hx]; exact hv
theorem phi_fine : ∀ (m : Nat) (xa xt : List Int) (ts : List Tk), Bd en ts → Ids xa → Labs xt → xa.length = xt.length → Fine en (phiP en m xa xt ts) (fun q => Bd en q.2.2 ∧ Ids q.1 ∧ Labs q.2.1 ∧ q.1.length = q.2.1.length ∧ 0 < q.2.1.length)
  | 0, _, _, _, h, _, _, _ => fine_zero h
  | m + 1, xa, xt, ts, h, h1, h2, h3 => by
    simp only [phiP]
    split
    · refine (label_fine h).bind fun b hb => (value_fine hb.1).bind fun v hv => ?_
      exact phi_fine m _ _ _ hv.1 (ids_snoc h1 hv.2) (labs_snoc h2 hb.2) (by simp [h3])
    · next c =>
      refine ⟨h, h1, h2, h3, ?_⟩
      cases xt with
      | nil => simp at c
      | cons a l => simp
theorem args_fine : ∀ (m : Nat) (xa : List Int) (ts : List Tk), Bd en ts → Ids xa → Fine en (argsP en m xa ts) (fun q => Bd en q.2 ∧ Ids q.1)
  | 0, _, _, h, _ => fine_zero h
  | m + 1, xa, ts, h, h1 => by
    simp only [argsP]
    split
    · exact (value_fine h).bind fun v hv => args_fine m _ _ hv.1 (ids_snoc h1 hv.2)
    · exact ⟨h, h1⟩
theorem take_fine : ∀ (m : Nat) (xa : List Int) (ts : List Tk), Bd en ts → Ids xa → Fine en (takeP en m xa ts) (fun q => Bd en q.2 ∧ Ids q.1 ∧ q.1.length = xa.length + m)
  | 0, _, _, h, h1 => ⟨h, h1, rfl⟩
  | m + 1, xa, ts, h, h1 => by
    simp only [takeP]
    refine (value_fine h).bind fun v hv => ?_
    have := take_fine m _ _ hv.1 (ids_snoc h1 hv.2)
    rw [List.length_append, List.length_singleton] at this
    rw [show xa.length + (m + 1) = xa.length + 1 + m by omega]
    exact this
end
end Go.Proofs.Ytkjdblbgmomieaa.PSh
end
-- from YtkjdblbgmomieaaPStand
section
namespace Go.Proofs.Ytkjdblbgmomieaa.PSh
open Go.RowKit Go.Proofs.YtkjdblbgmomieaaW.PrintWords Go.Proofs.YtkjdblbgmomieaaW.PrintLast Go.Proofs.YtkjdblbgmomieaaW.PrintMore Go.Proofs.Ytkjdblbgmomieaa.Str Go.Proofs.Ytkjdblbgmomieaa.Dig Go.Proofs.Ytkjdblbgmomieaa.DigLaw
set_option linter.unusedVariables false
set_option linter.unusedSimpArgs false
section
variable {en : Int} {ts : List Tk}
theorem call_fine (h : Bd en ts) : Fine en (callP en ts) (fun r => Bd en r.2) := by
  unfold callP
  refine Fine.bind (G := fun r => Bd en r.2) ?_ fun q hq => (name_fine hq).bind fun m hm => (args_fine _ _ _ hm.1 ids_nil).bind fun a ha => ?_
  rotate_left
  · exact ha.1
  split
  · have := index_fine (sign := 64) (most := 1048576) (c := 3) h
    revert this
    cases indexP en 64 1048576 3 ts with
    | error q => exact id
    | ok q => exact fun h => h.1
  · exact h
theorem oper_fine {op : Int} (h : Bd en ts) : Fine en (operP en op ts) (fun r => Bd en r.2) := by
  unfold operP
  by_cases k0 : op = 1
  · rw [if_pos k0]; exact (number_fine h).bind fun q hq => hq.1
  rw [if_neg k0]
  by_cases k1 : op = 10
  · rw [if_pos k1]
    by_cases c : shpCode (pk0 ts) = 0
    · rw [if_pos c]; exact h.tail
    · rw [if_neg c]; exact fine_fail h
  rw [if_neg k1]
  by_cases k2 : op = 11 ∨ op = 12 ∨ op = 15
  · rw [if_pos k2]; exact (value_fine h).bind fun v hv => (number_fine hv.1).bind fun q hq => hq.1
  rw [if_neg k2]
  by_cases k3 : op = 13 ∨ op = 14
  · rw [if_pos k3]; exact (value_fine h).bind fun v hv => (number_fine hv.1).bind fun q hq => (value_fine hq.1).bind fun u hu => hu.1
  rw [if_neg k3]
  by_cases k4 : op = 20
  · rw [if_pos k4]; exact (phi_fine _ _ _ _ h ids_nil labs_nil rfl).bind fun q hq => hq.1
  rw [if_neg k4]
  by_cases k5 : op = 21
  · rw [if_pos k5]; exact call_fine h
  rw [if_neg k5]
  by_cases k6 : op = 23
  · rw [if_pos k6]; exact (number_fine h).bind fun q hq => hq.1
  rw [if_neg k6]
  by_cases k7 : op = 24
  · rw [if_pos k7]; exact (value_fine h).bind fun v hv => (number_fine hv.1).bind fun q hq => hq.1
  rw [if_neg k7]
  by_cases k8 : op = 26
  · rw [if_pos k8]; exact (label_fine h).bind fun q hq => hq.1
  rw [if_neg k8]
  by_cases k9 : op = 27
  · rw [if_pos k9]; exact (value_fine h).bind fun v hv => (label_fine hv.1).bind fun b hb => (label_fine hb.1).bind fun d hd => hd.1
  rw [if_neg k9]
  by_cases k10 : op = 28
  · rw [if_pos k10]
    by_cases c : valuesP ts = true
    · rw [if_pos c]; exact (value_fine h).bind fun v hv => hv.1
    · rw [if_neg c]; exact h
  rw [if_neg k10]
  by_cases k11 : op = 29
  · rw [if_pos k11]; exact (number_fine h).bind fun q hq => hq.1
  rw [if_neg k11]
  exact (take_fine _ _ _ h ids_nil).bind fun q hq => hq.1
theorem id_fine (h : Bd en ts) : Fine en (idP en ts) (fun r => Bd en r.2 ∧ (r.1 = -1 ∨ 0 ≤ r.1 ∧ r.1 ≤ 1048576) ∧ (ts = [] → r.2 = [])) := by
  unfold idP
  by_cases c : (pk1 ts).toList = ([61] : List UInt8)
  · rw [if_pos c]
    exact (value_fine h).bind fun v hv => ⟨hv.1.tail, .inr hv.2, fun e => by rw [e, show (pk1 []).toList = [] from ByteArray.toList_empty] at c; cases c⟩
  · rw [if_neg c]; exact ⟨h, .inl rfl, fun e => e⟩
def InsOk (en : Int) (x : SI) : Prop := ((makesI x.f0 x.f3 != 0) = decide (0 ≤ x.f1)) ∧ x.f1 ≤ 1048576 ∧ x.f7 < en
theorem instr_fine (h : Bd en ts) : Fine en (instrP en ts) (fun r => Bd en r.2 ∧ InsOk en r.1) := by
  unfold instrP
  refine (id_fine h).bind fun i hi => ?_
  by_cases c1 : (opOfW (pk0 i.2)).1 = 0
  · rw [if_pos c1]; exact fine_fail hi.1
  rw [if_neg c1]
  by_cases c2 : ((makesI (opOfW (pk0 i.2)).1 (opOfW (pk0 i.2)).2 != 0) != decide (0 ≤ i.1)) = true
  · rw [if_pos c2]; exact fine_fail hi.1
  rw [if_neg c2]
  refine (oper_fine hi.1.tail).bind fun r hr => ⟨hr, ?_, ?_, ?_⟩
  · exact bne_eq_false_iff_eq.mp (Bool.eq_false_iff.mpr c2)
  · show i.1 ≤ 1048576
    rcases hi.2.1 with h | h <;> omega
  · refine here_lt h (fun e => c1 ?_)
    rw [hi.2.2 e, findW_none]
theorem code_fine : ∀ (m : Nat) (acc : List SI) (n : Int) (ts : List Tk), Bd en ts → (∀ x ∈ acc, InsOk en x) → 0 ≤ n → n ≤ 4096 → Fine en (codeP en m acc n ts) (fun q => Bd en q.2.2 ∧ (∀ x ∈ q.1, InsOk en x) ∧ (q.1.length : Int) - acc.length = q.2.1 - n ∧ q.2.1 ≤ 4096 ∧ n ≤ q.2.1)
  | 0, _, _, _, h, _, _, _ => fine_zero h
  | m + 1, acc, n, ts, h, h1, h2, h3 => by
    simp only [codeP]
    split
    · split
      · exact fine_fail h
      · next c =>
        refine (instr_fine h).bind fun x hx => ?_
        have := code_fine m (acc ++ [x.1]) (n + 1) x.2 hx.1 (fun y hy => by
          rcases List.mem_append.mp hy with hy | hy
          · exact h1 y hy
          · rw [List.mem_singleton.mp hy]; exact hx.2) (by omega) (by omega)
        revert this
        cases codeP en m (acc ++ [x.1]) (n + 1) x.2 with
        | error q => exact id
        | ok q =>
          rintro ⟨a1, a2, a3, a4, a5⟩
          rw [List.length_append, List.length_singleton] at a3
          exact ⟨a1, a2, by push_cast at a3; omega, a4, by omega⟩
    · exact ⟨h, h1, by simp, h3, Int.le_refl _⟩
theorem block_fine {k n : Int} (h : Bd en ts) (h2 : 0 ≤ n) (h3 : n ≤ 4096) : Fine en (blockP en k n ts) (fun q => Bd en q.2.2 ∧ (∀ x ∈ q.1, InsOk en x) ∧ (q.1.length : Int) = q.2.1 - n ∧ q.2.1 ≤ 4096 ∧ n ≤ q.2.1 ∧ k < 256) := by
  unfold blockP
  by_cases c : k ≥ 256
  · rw [if_pos c]; exact fine_fail h
  rw [if_neg c]
  split
  · refine (want_fine h.tail).bind fun us hu => ?_
    have := code_fine (us.length + 1) [] n us hu (fun _ h => by cases h) h2 h3
    revert this
    cases codeP en (us.length + 1) [] n us with
    | error q => exact id
    | ok q => exact fun ⟨a1, a2, a3, a4, a5⟩ => ⟨a1, a2, by simpa using a3, a4, a5, by omega⟩
  · exact fine_fail h
def FunOk (en : Int) (f : SF) : Prop := f.f1.length ≤ 8 ∧ f.f3.length ≤ 256 ∧ nameL f.f0.data.toList = true ∧ ∀ b ∈ f.f3, ∀ x ∈ b, InsOk en x
theorem blocks_fine : ∀ (m : Nat) (bs : List (List SI)) (n : Int) (ts : List Tk), Bd en ts → (∀ b ∈ bs, ∀ x ∈ b, InsOk en x) → bs.length ≤ 256 → 0 ≤ n → n ≤ 4096 → Fine en (blocksP en m bs n ts) (fun q => Bd en q.2.2 ∧ (∀ b ∈ q.1, ∀ x ∈ b, InsOk en x) ∧ q.1.length ≤ 256 ∧ (((q.1.map List.length).sum : Nat) : Int) - ((bs.map List.length).sum : Nat) = q.2.1 - n ∧ q.2.1 ≤ 4096 ∧ n ≤ q.2.1)
  | 0, _, _, _, h, _, _, _, _ => fine_zero h
  | m + 1, bs, n, ts, h, h1, hl, h2, h3 => by
    simp only [blocksP]
    split
    · exact ⟨h, h1, hl, by simp, h3, Int.le_refl _⟩
    · refine (block_fine h h2 h3).bind fun b hb => ?_
      obtain ⟨a1, a2, a3, a4, a5, a6⟩ := hb
      have := blocks_fine m (bs ++ [b.1]) b.2.1 b.2.2 a1 (fun y hy => by
        rcases List.mem_append.mp hy with hy | hy
        · exact h1 y hy
        · rw [List.mem_singleton.mp hy]; exact a2) (by simp; omega) (by omega) a4
      revert this
      cases blocksP en m (bs ++ [b.1]) b.2.1 b.2.2 with
      | error q => exact id
      | ok q =>
        rintro ⟨b1, b2, b3, b4, b5, b6⟩
        rw [List.map_append, List.sum_append] at b4
        simp only [List.map_cons, List.map_nil, List.sum_cons, List.sum_nil, Nat.add_zero] at b4
        exact ⟨b1, b2, b3, by push_cast at b4; omega, b5, by omega⟩
theorem params_fine : ∀ (m : Nat) (ps : List Int) (ts : List Tk), Bd en ts → ps.length ≤ 8 → Fine en (paramsP en m ps ts) (fun q => Bd en q.2 ∧ q.1.length ≤ 8)
  | 0, _, _, h, _ => fine_zero h
  | m + 1, ps, ts, h, h1 => by
    simp only [paramsP]
    split
    · exact ⟨h, h1⟩
    split
    · exact fine_fail h
    split
    · exact fine_fail h
    · exact params_fine m _ _ h.tail (by simp; omega)
theorem head_fine (h : Bd en ts) : Fine en (headP en ts) (fun q => Bd en q.2.2.2 ∧ nameL q.1.data.toList = true ∧ q.2.1.length ≤ 8) := by
  unfold headP
  refine (want_fine h).bind fun t1 h1 => (name_fine h1).bind fun m hm => (want_fine hm.1).bind fun t2 h2 => (params_fine _ _ _ h2 (by simp)).bind fun p hp => (want_fine hp.1).bind fun t3 h3 => ?_
  split
  · exact fine_fail h3
  · exact (want_fine h3.tail).bind fun t4 h4 => ⟨h4, hm.2, hp.2⟩
theorem func_fine {n : Int} (h : Bd en ts) (h2 : 0 ≤ n) (h3 : n ≤ 4096) : Fine en (funcP en n ts) (fun q => Bd en q.2.2 ∧ FunOk en q.1 ∧ (((q.1.f3.map List.length).sum : Nat) : Int) = q.2.1 - n ∧ q.2.1 ≤ 4096 ∧ n ≤ q.2.1) := by
  unfold funcP
  refine (head_fine h).bind fun a ha => (blocks_fine _ _ _ _ ha.1 (fun _ h => by cases h) (by simp) h2 h3).bind fun b hb => (want_fine hb.1).bind fun u hu => ?_
  obtain ⟨b1, b2, b3, b4, b5, b6⟩ := hb
  exact ⟨hu, ⟨ha.2.2, b3, ha.2.1, b2⟩, by simpa using b4, b5, b6⟩
theorem text_fine : ∀ (m : Nat) (fs : List SF) (n : Int) (ts : List Tk), Bd en ts → (∀ f ∈ fs, FunOk en f) → fs.length ≤ 32 → 0 ≤ n → n ≤ 4096 → (((fs.map fun f => (f.f3.map List.length).sum).sum : Nat) : Int) = n → Fine en (textP en m fs n ts) (fun q => (∀ f ∈ q, FunOk en f) ∧ q.length ≤ 32 ∧ (q.map fun f => (f.f3.map List.length).sum).sum ≤ 4096)
  | 0, _, _, _, h, _, _, _, _, _ => fine_zero h
  | m + 1, fs, n, ts, h, h1, hl, h2, h3, h4 => by
    simp only [textP]
    split
    · exact ⟨h1, hl, by omega⟩
    split
    · exact fine_fail h
    · refine (func_fine h h2 h3).bind fun f hf => ?_
      obtain ⟨a1, a2, a3, a4, a5⟩ := hf
      refine text_fine m _ _ _ a1 (fun y hy => by
        rcases List.mem_append.mp hy with hy | hy
        · exact h1 y hy
        · rw [List.mem_singleton.mp hy]; exact a2) (by simp; omega) (by omega) a4 ?_
      rw [List.map_append, List.sum_append]
      simp only [List.map_cons, List.map_nil, List.sum_cons, List.sum_nil, Nat.add_zero]
      push_cast
      omega
end
theorem stand_lt {s : ByteArray} : ∀ {l : List Tok} {a b : Int}, Stand s a l b → ∀ t ∈ l, a ≤ t.f1 ∧ t.f1 < s.size := by
  intro l
  induction l with
  | nil => intro a b _ t ht; cases ht
  | cons x l ih =>
    intro a b h t ht
    rcases List.mem_cons.mp ht with rfl | ht
    · exact ⟨h.1, by have := h.2.1; have := h.2.2.1; omega⟩
    · have := ih h.2.2.2.2 t ht
      exact ⟨by have := h.1; omega, this.2⟩
theorem split_facts {s : ByteArray} (hs : s.size ≤ 65536) : fewT (splitL s).1 = true ∧ (((splitL s).2.1 = 0 ∧ Bd (s.size : Int) (splitL s).1) ∨ ((splitL s).2.1 = 1 ∧ 0 ≤ (splitL s).2.2 ∧ (splitL s).2.2 < s.size)) := by
  have hsp : splitL s = splitGo s s.data.toList 0 (-1) false [] := if_neg (by omega)
  rw [hsp]
  obtain ⟨r1, r2, r3, hq⟩ : ∃ r1 r2 r3, splitGo s s.data.toList 0 (-1) false [] = (r1, r2, r3) := ⟨_, _, _, rfl⟩
  have h := split_stand s s.data.toList 0 (-1) false [] 0 r1 r2 r3 (by simp) (by omega) (Int.le_refl 0) (.inl ⟨rfl, by omega⟩) hq
  rw [hq]
  rcases h with ⟨h1, h2⟩ | ⟨h1, h2, h3, h4⟩
  · have hl := stand_len h2
    refine ⟨?_, .inl ⟨h1, by omega, fun t ht => ?_⟩⟩
    · unfold fewT
      rw [Bool.and_eq_true, decide_eq_true_iff, List.all_eq_true]
      exact ⟨by simp only; omega, fun t ht => decide_eq_true (by have := (stand_in h2 t ht).2; omega)⟩
    · exact stand_lt h2 t ht
  · refine ⟨?_, .inr ⟨h1, h3, h4⟩⟩
    rw [h2]; rfl
end Go.Proofs.Ytkjdblbgmomieaa.PSh
end
-- from YtkjdblbgmomieaaPureParseStands
section
namespace Go.Proofs.Ytkjdblbgmomieaa.Pure
open Go.RowKit Go.Proofs.Ytkjdblbgmomieaa.PSh Go.Proofs.Ytkjdblbgmomieaa.ParseStandsSaid Go.Proofs.YtkjdblbgmomieaaW.PrintWords Go.Proofs.YtkjdblbgmomieaaW.PrintLast Go.Proofs.Ytkjdblbgmomieaa.Str
set_option linter.unusedVariables false
theorem ParseStands : ParseStands.Good := by
  intro s _
  refine ⟨0, ?_⟩
  unfold turntablelaw06_ParseStands.f
  by_cases hb : 2500 < s.size
  · rw [if_pos hb]
  rw [if_neg hb]
  obtain ⟨h1, h2⟩ := split_facts (s := s) (by omega)
  unfold parse_Text.f
  rw [if_pos h1, Option.bind_some]
  unfold parseP
  rcases h2 with ⟨h3, h4⟩ | ⟨h3, h4, h5⟩
  · rw [if_pos h3]
    have := text_fine ((splitL s).1.length + 1) [] 0 (splitL s).1 h4 (fun _ h => by cases h) (by simp) (Int.le_refl _) (by omega) rfl
    revert this
    cases textP (s.size : Int) ((splitL s).1.length + 1) [] 0 (splitL s).1 with
    | error q =>
      intro h
      simp only
      split
      · rfl
      · rw [if_pos ⟨h.1, h.2, rfl⟩]
    | ok fs =>
      rintro ⟨a1, a2, a3⟩
      simp only
      rw [if_pos trivial, if_pos]
      exact standP_iff.mpr ⟨a2, a3, fun f hf => standF_iff.mpr (a1 f hf)⟩
  · have hn : ¬ (splitL s).2.1 = 0 := by omega
    simp only [if_neg hn]
    rw [if_pos ⟨h4, by omega, rfl⟩]
end Go.Proofs.Ytkjdblbgmomieaa.Pure
end
-- from YtkjdblbgmomieaaLawParseStands
section
namespace Go.Proofs.Ytkjdblbgmomieaa.parseStands
open Go.ChangeShapes Go.WideShapes Go.ChangeAt Go.RowKit
open Go.ChangeMaps (open_string shut_string)
open Go.Proofs.Ytkjdblbgmomieaa.PSh Go.Proofs.Ytkjdblbgmomieaa.Open Go.Proofs.Ytkjdblbgmomieaa.ParseStandsSaid
set_option linter.unusedVariables false
theorem own : ownKnob Try.prog.godebug = none := by kernel_rfl
theorem laidOut : laidOutB Try.prog = true := by kernel_rfl
set_option maxHeartbeats 4000000 in
set_option maxRecDepth 100000 in
theorem lifted (os : Os) (started : os.Started) (H : Type) (enc : TypeId × Value → H) :
    ReturnsInHanded {} Try.checked os 6 .any (Rows.parseStandsSpec.pre6 enc Try.prog Try.f6 Rows.parseStandsRow.domain false) (Rows.parseStandsSpec.post enc Try.prog Try.f6 false true false false) := by
  refine returnsInHanded_of_change_sized (C := Try.checked) own started (by kernel_rfl) Try.func6
    (ChangeSpec.witness6 (enc := enc) (C := Try.checked) false ⟨#[], #[.string ByteArray.empty], []⟩ 8 (by kernel_rfl) (by kernel_rfl) (by kernel_rfl) (by kernel_rfl)) ?_
  intro W base args ds gs before hval0 hW hcnd hsz0 _
  have hsz : (DataW.weightsEach Try.prog (Try.f6.params.toList ++ Rows.parseStandsSpec.plain.varTypes Try.prog) (ds ++ gs)).all (· ≤ reachBytes) = true := hsz0
  have hval : ∀ (j : Nat) t v, Try.f6.params[j]? = some t → args[j]? = some v → Value.okWide Try.prog W .any base t v := hval0
  have hW' := hW
  obtain ⟨p, q, hA0, hV, rfl, hfz, hnd⟩ := hW
  have hA : DataW.TrodAll enc Try.prog W 0 (fun _ => true) true Try.f6.params.toList args.toList ds p := hA0
  rw [Try.params6] at hA hval hsz
  obtain ⟨v0, vs0, d0, ds0, p0, q0, hargs, rfl, rfl, h0, r0⟩ := trodAll_cons hA
  obtain ⟨rfl, rfl, rfl⟩ := trodAll_nil r0
  obtain rfl : args = #[v0] := by cases args; simp_all
  obtain ⟨rfl, rfl⟩ := trodVars_none hV
  obtain ⟨a0, rfl, rfl, rfl, y0⟩ := open_string Try.underlying9 (hval 0 9 v0 rfl rfl) h0
  have w0 : a0.size ≤ 140737488351232 := by
    have z := sized_string hsz (j := 0) (t := 9) rfl rfl
    rw [Array.length_toList] at z
    exact z
  clear hA0 hval0 hsz0 hsz
  obtain ⟨k, hk⟩ := Pure.ParseStands a0 w0
  refine (turntablelaw06_ParseStands.calls k a0 true W hk).mono ?_
  rintro e W' ⟨rfl, hd_⟩
  have bel : Below W.heap.size W W' := hd_
  exact ⟨_, rfl, _, _, _, [], _, [], hW', trodAll_mk1 (shut_bool Try.underlying4 _), (trodAll_cons_mk (shut_string Try.underlying9 y0) trodAll_mk0), rfl, bel.frame _, fun h => by cases h⟩
theorem over : Rows.parseStandsRow.holds Try.pinned (OpenSpec.ofChange Rows.parseStandsSpec) :=
  OpenClaim.holds_of_wide 6 Try.f6 rfl rfl rfl rfl rfl rfl rfl ⟨rfl, rfl, rfl, rfl, rfl⟩ rfl rfl rfl rfl rfl (by kernel_rfl) Try.func6 (by kernel_rfl)
    (of_decide_eq_true (by kernel_rfl)) (by unfold Func.isWrapper; first | (rw [if_pos (by decide +kernel)]; kernel_rfl) | (rw [if_neg (by decide +kernel)]; exact ⟨rfl, rfl⟩))
    (fun os started H enc _ => lifted os started H enc)
theorem proved : Rows.ParseStandsSaid := over
#print axioms proved
end Go.Proofs.Ytkjdblbgmomieaa.parseStands
namespace Go.Proofs.Ytkjdblbgmomieaa
theorem parseStands_holds : Rows.ParseStandsSaid := parseStands.proved
end Go.Proofs.Ytkjdblbgmomieaa
end
