/- What the words of a text are, and these words put together: plain laws. -/
import Derived.Test.YthnkgnbemmndgaaHSplit
import Derived.Test.YthnkgnbemmndgaaHName
import Derived.Test.YthnkgnbemmndgaaSplitLaw
import Derived.Test.YthnkgnbemmndgaaPTkx3
import Derived.Test.YthnkgnbemmndgaaPTkx4
import Derived.Test.YthnkgnbemmndgaaPTkx2
import Derived.Test.YthnkgnbemmndgaaPTkx3
namespace Go.Proofs.Ythnkgnbemmndgaa.TokLaw
open Go.RowKit Go.Proofs.Ythnkgnbemmndgaa.PTk Go.Proofs.YthnkgnbemmndgaaW.PrintWords Go.Proofs.YthnkgnbemmndgaaW.PrintLast Go.Proofs.YthnkgnbemmndgaaW.PrintMore Go.Proofs.Ythnkgnbemmndgaa.Str
set_option linter.unusedVariables false
set_option linter.unusedSimpArgs false

theorem works_ev : Ev (fun k => turntablelaw02_works.f k) true := by
  refine Ev.of (fun k => turntablelaw02_works.mono k) (k := 20) ?_
  decide +kernel

def joinFrom (s : ByteArray) (i : Nat) : List Tok → ByteArray
  | [] => s
  | t :: l => joinFrom ((if 0 < i then s ++ (⟨#[32]⟩ : ByteArray) else s) ++ t.f0) (i + 1) l

def tot (l : List Tok) : Nat := (l.map fun t => t.f0.size + 1).sum

theorem tot_cons (t : Tok) (l : List Tok) : tot (t :: l) = t.f0.size + 1 + tot l := by simp [tot]

theorem rd_pre (pre rest : List Tok) (t : Tok) : rd_T46 (pre ++ t :: rest) (pre.length : Int) = t := by
  unfold rd_T46
  simp

theorem size_app (a b : ByteArray) : (a ++ b).size = a.size + b.size := by simp

theorem join_loop : ∀ (rest pre : List Tok) (s : ByteArray), s.size + tot rest ≤ 4611686018427387904 → (pre ++ rest).length ≤ 4611686018427387904 →
    Ev (fun k => token_Join.l0 k s (pre ++ rest) ((pre ++ rest).length : Int) (pre.length : Int)) (joinFrom s pre.length rest) := by
  intro rest
  induction rest with
  | nil =>
    intro pre s _ _
    exact Ev.step (f := fun _ => some s) (fun k => by simp only [token_Join.l0]; rw [if_neg (by simp)]) (Ev.now _)
  | cons t rest ih =>
    intro pre s hs hl
    rw [tot_cons] at hs
    have hlt : (pre.length : Int) < ((pre ++ t :: rest).length : Int) := by simp; omega
    have hw : wrap64 ((pre.length : Int) + 1) = ((pre ++ [t]).length : Int) := by
      rw [w64 (by omega) (by simp at hl; omega)]; simp
    have hpre : pre ++ t :: rest = (pre ++ [t]) ++ rest := by simp
    by_cases hp : 0 < pre.length
    · refine Ev.step (f := fun k => token_Join.l0 k ((s ++ (⟨#[32]⟩ : ByteArray)) ++ t.f0) ((pre ++ [t]) ++ rest) (((pre ++ [t]) ++ rest).length : Int) ((pre ++ [t]).length : Int)) (fun k => ?_) ?_
      · simp only [token_Join.l0]
        have h1 : (s ++ (⟨#[32]⟩ : ByteArray)).size = s.size + 1 := by rw [size_app]; rfl
        rw [if_pos hlt, if_pos (by omega), if_pos hlt, if_pos (by omega), if_pos (by omega), rd_pre, if_pos (by omega), hw, ← hpre]
      · have := ih (pre ++ [t]) ((s ++ (⟨#[32]⟩ : ByteArray)) ++ t.f0) (by rw [size_app, size_app]; show s.size + 1 + _ + _ ≤ _; omega) (by rw [← hpre]; exact hl)
        have e : joinFrom s pre.length (t :: rest) = joinFrom ((s ++ (⟨#[32]⟩ : ByteArray)) ++ t.f0) (pre ++ [t]).length rest := by
          rw [joinFrom, if_pos hp]; simp
        rw [e]; exact this
    · refine Ev.step (f := fun k => token_Join.l0 k (s ++ t.f0) ((pre ++ [t]) ++ rest) (((pre ++ [t]) ++ rest).length : Int) ((pre ++ [t]).length : Int)) (fun k => ?_) ?_
      · simp only [token_Join.l0]
        rw [if_pos hlt, if_pos (by omega), if_pos hlt, if_neg (by omega), rd_pre, if_pos (by omega), hw, ← hpre]
      · have := ih (pre ++ [t]) (s ++ t.f0) (by rw [size_app]; omega) (by rw [← hpre]; exact hl)
        have e : joinFrom s pre.length (t :: rest) = joinFrom (s ++ t.f0) (pre ++ [t]).length rest := by
          rw [joinFrom, if_neg hp]; simp
        rw [e]; exact this

theorem join_ev (l : List Tok) (h : tot l ≤ 4611686018427387904) (hl : l.length ≤ 4611686018427387904) : Ev (fun k => token_Join.f k l) (joinFrom (⟨#[]⟩ : ByteArray) 0 l) := by
  unfold token_Join.f
  exact join_loop l [] (⟨#[]⟩ : ByteArray) (by show 0 + _ ≤ _; omega) (by simpa using hl)

theorem ref_join_loop : ∀ (rest pre : List Tok) (s : ByteArray), s.size + tot rest ≤ 4611686018427387904 → (pre ++ rest).length ≤ 4611686018427387904 →
    Ev (fun k => turntableref02_Join.l0 k (pre ++ rest) s (pre.length : Int)) (joinFrom s pre.length rest) := by
  intro rest
  induction rest with
  | nil =>
    intro pre s _ _
    exact Ev.step (f := fun _ => some s) (fun k => by simp only [turntableref02_Join.l0]; rw [if_neg (by simp)]) (Ev.now _)
  | cons t rest ih =>
    intro pre s hs hl
    rw [tot_cons] at hs
    have hlt : (pre.length : Int) < ((pre ++ t :: rest).length : Int) := by simp; omega
    have hw : wrap64 ((pre.length : Int) + 1) = ((pre ++ [t]).length : Int) := by
      rw [w64 (by omega) (by simp at hl; omega)]; simp
    have hpre : pre ++ t :: rest = (pre ++ [t]) ++ rest := by simp
    by_cases hp : 0 < pre.length
    · refine Ev.step (f := fun k => turntableref02_Join.l0 k ((pre ++ [t]) ++ rest) ((s ++ (⟨#[32]⟩ : ByteArray)) ++ t.f0) ((pre ++ [t]).length : Int)) (fun k => ?_) ?_
      · simp only [turntableref02_Join.l0]
        have h1 : (s ++ (⟨#[32]⟩ : ByteArray)).size = s.size + 1 := by rw [size_app]; rfl
        rw [if_pos hlt, if_pos (by omega), if_pos (by omega), if_pos (by omega), rd_pre, if_pos (by omega), hw, ← hpre]
      · have := ih (pre ++ [t]) ((s ++ (⟨#[32]⟩ : ByteArray)) ++ t.f0) (by rw [size_app, size_app]; show s.size + 1 + _ + _ ≤ _; omega) (by rw [← hpre]; exact hl)
        have e : joinFrom s pre.length (t :: rest) = joinFrom ((s ++ (⟨#[32]⟩ : ByteArray)) ++ t.f0) (pre ++ [t]).length rest := by
          rw [joinFrom, if_pos hp]; simp
        rw [e]; exact this
    · refine Ev.step (f := fun k => turntableref02_Join.l0 k ((pre ++ [t]) ++ rest) (s ++ t.f0) ((pre ++ [t]).length : Int)) (fun k => ?_) ?_
      · simp only [turntableref02_Join.l0]
        rw [if_pos hlt, if_neg (by omega), if_pos (by omega), rd_pre, if_pos (by omega), hw, ← hpre]
      · have := ih (pre ++ [t]) (s ++ t.f0) (by rw [size_app]; omega) (by rw [← hpre]; exact hl)
        have e : joinFrom s pre.length (t :: rest) = joinFrom (s ++ t.f0) (pre ++ [t]).length rest := by
          rw [joinFrom, if_neg hp]; simp
        rw [e]; exact this

theorem ref_join_ev (l : List Tok) (h : tot l ≤ 4611686018427387904) (hl : l.length ≤ 4611686018427387904) : Ev (fun k => turntableref02_Join.f k l) (joinFrom (⟨#[]⟩ : ByteArray) 0 l) := by
  unfold turntableref02_Join.f
  exact ref_join_loop l [] (⟨#[]⟩ : ByteArray) (by show 0 + _ ≤ _; omega) (by simpa using hl)

theorem ref_name_loop : ∀ (rest pre : List UInt8), (pre ++ rest).length ≤ 4611686018427387904 → Ev (fun k => turntableref02_Name.l0 k (mk (pre ++ rest)) (pre.length : Int)) (nameFrom pre.length rest) := by
  intro rest
  induction rest with
  | nil =>
    intro pre _
    exact Ev.step (f := fun _ => some true) (fun k => by simp only [turntableref02_Name.l0]; rw [if_neg (by rw [mk_size]; simp)]) (Ev.now _)
  | cons c rest ih =>
    intro pre hl
    have hsz : (pre.length : Int) < ((mk (pre ++ c :: rest)).size : Int) := by rw [mk_size]; simp; omega
    have hw : wrap64 ((pre.length : Int) + 1) = ((pre ++ [c]).length : Int) := by
      rw [w64 (by omega) (by simp at hl; omega)]; simp
    have hpre : pre ++ c :: rest = (pre ++ [c]) ++ rest := by simp
    refine Ev.step (f := fun k => if nameC pre.length c = true then turntableref02_Name.l0 k (mk ((pre ++ [c]) ++ rest)) ((pre ++ [c]).length : Int) else some false) (fun k => ?_) ?_
    · simp only [turntableref02_Name.l0]
      rw [if_pos hsz, if_pos (by omega), bt_pre, hw, ← hpre]
      generalize turntableref02_Name.l0 k (mk (pre ++ c :: rest)) ((pre ++ [c]).length : Int) = z
      unfold nameC
      have q6 : ((pre.length : Int) = 0) = (pre.length = 0) := by simp
      have q5 : ((c.toNat : Int) = 95) = (c.toNat = 95) := by apply propext; omega
      have q1 : ((c.toNat : Int) ≥ 97) = (97 ≤ c.toNat) := by apply propext; omega
      have q2 : ((c.toNat : Int) ≥ 48) = (48 ≤ c.toNat) := by apply propext; omega
      have q3 : ((c.toNat : Int) ≤ 122) = (c.toNat ≤ 122) := by apply propext; omega
      have q4 : ((c.toNat : Int) ≤ 57) = (c.toNat ≤ 57) := by apply propext; omega
      simp only [q1, q2, q3, q4, q5, q6]
      by_cases p1 : 97 ≤ c.toNat <;> by_cases p2 : 48 ≤ c.toNat <;> by_cases p3 : c.toNat ≤ 122 <;> by_cases p4 : c.toNat ≤ 57 <;> by_cases p5 : c.toNat = 95 <;> by_cases p6 : pre.length = 0 <;> first | (exfalso; omega) | simp [p1, p2, p3, p4, p5, p6]
    · have e : nameFrom pre.length (c :: rest) = (nameC pre.length c && nameFrom (pre ++ [c]).length rest) := by rw [nameFrom]; simp
      rw [e]
      refine ev_if (fun h => ?_) (fun h => ?_)
      · rw [h, Bool.true_and]; exact ih (pre ++ [c]) (by rw [← hpre]; exact hl)
      · have : nameC pre.length c = false := by simpa using h
        rw [this, Bool.false_and]; exact Ev.now _

theorem ref_name_ev (l : List UInt8) (hl : l.length ≤ 4611686018427387904) : Ev (fun k => turntableref02_Name.f k (mk l)) (nameL l) := by
  unfold turntableref02_Name.f
  rw [mk_size]
  have j : ∀ b : Bool, (b = true → nameL l = false) → (b = false → nameL l = nameFrom 0 l) → Ev (fun k => turntableref02_Name.j0 k (mk l) b) (nameL l) := by
    intro b h1 h2
    cases b with
    | true => rw [h1 rfl]; exact Ev.step (f := fun _ => some false) (fun k => by simp [turntableref02_Name.j0]) (Ev.now _)
    | false => rw [h2 rfl]; exact Ev.step (f := fun k => turntableref02_Name.l0 k (mk ([] ++ l)) (([] : List UInt8).length : Int)) (fun k => by simp [turntableref02_Name.j0]) (ref_name_loop l [] hl)
  refine ev_if (fun h => ?_) (fun h => ?_)
  · have : l = [] := List.length_eq_zero_iff.1 (by omega)
    subst this
    exact j true (fun _ => rfl) (fun e => by cases e)
  · have hne : l.isEmpty = false := by cases l with
      | nil => simp at h
      | cons _ _ => rfl
    refine j _ (fun e => ?_) (fun e => ?_)
    · have : ¬ l.length ≤ 24 := by have := of_decide_eq_true e; omega
      simp [nameL, this]
    · have : l.length ≤ 24 := by have := of_decide_eq_false e; omega
      simp [nameL, this, hne]

theorem tot_le : ∀ (l : List Tok), (∀ t ∈ l, t.f0.size ≤ 100) → tot l ≤ 101 * l.length := by
  intro l
  induction l with
  | nil => intro _; exact Nat.le_refl _
  | cons t l ih =>
    intro h
    have := h t (by simp)
    have := ih (fun x hx => h x (by simp [hx]))
    rw [tot_cons, List.length_cons]; omega

theorem stand_tot {s : ByteArray} : ∀ {l : List Tok} {a b : Int}, Stand s a l b → (tot l : Int) ≤ 2 * (b - a) ∧ (l.length : Int) ≤ b - a := by
  intro l
  induction l with
  | nil => intro a b h; have : a ≤ b := h; simp [tot]; omega
  | cons t l ih =>
    intro a b h
    obtain ⟨h1, h2, h3, h4, h5⟩ := h
    obtain ⟨g1, g2⟩ := ih h5
    rw [tot_cons, List.length_cons]
    omega

theorem join_glue : ∀ (l : List Tok) (acc : List UInt8) (i : Nat), joinFrom (mk acc) (i + 1) l = mk (acc ++ (if Texts l = [] then [] else 32 :: glue (Texts l))) := by
  intro l
  induction l with
  | nil => intro acc i; simp [joinFrom, Texts]
  | cons t l ih =>
    intro acc i
    rw [joinFrom, if_pos (by omega)]
    have e : (mk acc ++ (⟨#[32]⟩ : ByteArray)) ++ t.f0 = mk (acc ++ [32] ++ t.f0.data.toList) := by
      rw [← mk_append, ← mk_append, ← mk_data]
    rw [e, ih]
    congr 1
    show _ = acc ++ (if (t.f0.data.toList :: Texts l) = [] then [] else 32 :: glue (t.f0.data.toList :: Texts l))
    have e2 : (if (t.f0.data.toList :: Texts l) = [] then [] else 32 :: glue (t.f0.data.toList :: Texts l)) = 32 :: glue (t.f0.data.toList :: Texts l) := if_neg (by simp)
    rw [e2, glue_cons]
    simp

theorem join_glue0 (l : List Tok) : joinFrom (⟨#[]⟩ : ByteArray) 0 l = mk (glue (Texts l)) := by
  cases l with
  | nil => rfl
  | cons t l =>
    rw [joinFrom, if_neg (by omega)]
    have e : (⟨#[]⟩ : ByteArray) ++ t.f0 = mk t.f0.data.toList := by
      rw [← mk_data]
      apply ByteArray.ext
      simp
    rw [e, join_glue]
    show _ = mk (glue (t.f0.data.toList :: Texts l))
    rw [glue_cons]

theorem texts_get {a b : List Tok} (h : Texts a = Texts b) (i : Nat) (ha : i < a.length) (hb : i < b.length) : (a[i]).f0 = (b[i]).f0 := by
  have h1 : (Texts a)[i]? = (Texts b)[i]? := by rw [h]
  simp only [Texts, List.getElem?_map, List.getElem?_eq_getElem ha, List.getElem?_eq_getElem hb, Option.map_some] at h1
  have h2 := Option.some.inj h1
  rw [mk_data (a[i]).f0, mk_data (b[i]).f0, h2]
end Go.Proofs.Ythnkgnbemmndgaa.TokLaw
