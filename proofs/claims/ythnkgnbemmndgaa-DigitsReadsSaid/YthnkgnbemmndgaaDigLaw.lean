/- Which number a text is (digits.Parse and the reference's), and a number as digits: what the printed functions answer, told by plain functions on lists of bytes. No condition but that the text is no longer than memory. -/
import Derived.Test.YthnkgnbemmndgaaPDgx
import Derived.Test.YthnkgnbemmndgaaStr
import Derived.Test.YthnkgnbemmndgaaDigPure
namespace Go.Proofs.Ythnkgnbemmndgaa.DigLaw
set_option linter.unusedSimpArgs false
open Go.RowKit Go.Proofs.YthnkgnbemmndgaaW.PrintWords Go.Proofs.YthnkgnbemmndgaaW.PrintLast Go.Proofs.YthnkgnbemmndgaaW.PrintMore Go.Proofs.Ythnkgnbemmndgaa.Str Go.Proofs.Ythnkgnbemmndgaa.Dig Go.Proofs.Ythnkgnbemmndgaa.PDg

def isD (c : UInt8) : Bool := decide (48 ≤ c.toNat) && decide (c.toNat ≤ 57)
def vn (n : Nat) (c : UInt8) : Nat := n * 10 + (c.toNat - 48)
/-- What digits are worth, behind what stood ahead. -/
def valD (v : Nat) (l : List UInt8) : Nat := l.foldl vn v
def fin (low : Bool) (V : Nat) : Int × Int := if 9223372036854775808 < V ∨ low = false ∧ V = 9223372036854775808 then (0, 18) else if low = true then (-(V : Int), 0) else ((V : Int), 0)
def finish (low : Bool) (rest : List UInt8) (v : Nat) : Int × Int := if rest.all isD = true then fin low (valD v rest) else (0, 3)
/-- A text's digits may not be: none, or a nought ahead of others, or nought below nought. -/
def badD (low : Bool) (t : List UInt8) : Bool := t.isEmpty || decide (1 < t.length) && t.head? == some 48 || low && t == [48]
def parseT (low : Bool) (t : List UInt8) : Int × Int := if badD low t = true then (0, 3) else finish low t 0
/-- The number that a text is; beside it 0, or why it is none. -/
def parseL (l : List UInt8) : Int × Int := if l.head? = some 45 then parseT true l.tail else parseT false l

theorem isD_iff (c : UInt8) : isD c = true ↔ 48 ≤ c.toNat ∧ c.toNat ≤ 57 := by unfold isD; rw [Bool.and_eq_true, decide_eq_true_iff, decide_eq_true_iff]
theorem valD_cons (v : Nat) (c : UInt8) (l : List UInt8) : valD v (c :: l) = valD (vn v c) l := List.foldl_cons ..
theorem valD_ge : ∀ (l : List UInt8) (v : Nat), v ≤ valD v l := by
  intro l
  induction l with
  | nil => intro v; exact Nat.le_refl _
  | cons c l ih =>
    intro v
    have h1 : v ≤ vn v c := by unfold vn; omega
    rw [valD_cons]
    exact Nat.le_trans h1 (ih (vn v c))
theorem valD_append (v : Nat) (a b : List UInt8) : valD v (a ++ b) = valD (valD v a) b := List.foldl_append ..

theorem j5_ev (low : Bool) (n : Int) (v : Nat) (hv : v ≤ 9223372036854775808) (hn : n = -(v : Int)) :
    Ev (fun k => digits_Parse.j5 k low n (!low && n == -9223372036854775808)) (fin low v) := by
  refine Ev.step (f := fun _ => some (fin low v)) (fun k => ?_) (Ev.now _)
  unfold digits_Parse.j5 fin
  subst hn
  by_cases h : v = 9223372036854775808
  · subst h
    cases low <;> simp
  · have h1 : ¬ 9223372036854775808 < v := by omega
    have h2 : (-(v : Int) == -9223372036854775808) = false := by rw [beq_eq_false_iff_ne]; omega
    have h3 : wrap64 (v : Int) = (v : Int) := by unfold wrap64; omega
    cases low <;> simp [h, h1, h2, h3]

theorem parse_loop (low : Bool) : ∀ (rest pre : List UInt8) (v : Nat) (far : Bool) (n : Int), (pre ++ rest).length ≤ 4611686018427387904 → far = decide (9223372036854775808 < v) → (far = false → n = -(v : Int)) →
    Ev (fun k => digits_Parse.l0 k low (mk (pre ++ rest)) n far (pre.length : Int)) (finish low rest v) := by
  intro rest
  induction rest with
  | nil =>
    intro pre v far n hl hf hn
    have hsz : ¬ ((pre.length : Int) < ((mk (pre ++ [])).size : Int)) := by rw [mk_size]; simp
    refine Ev.step (f := fun k => if far = true then digits_Parse.j5 k low n true else if low = true then digits_Parse.j5 k low n false else digits_Parse.j5 k low n (n == -9223372036854775808)) (fun k => by simp only [digits_Parse.l0]; rw [if_neg hsz]) ?_
    have e : finish low [] v = fin low v := by simp [finish, valD]
    rw [e]
    cases far with
    | true =>
      have hv : 9223372036854775808 < v := by simpa using hf.symm
      refine ev_pos rfl (Ev.step (f := fun _ => some (0, 18)) (fun k => by simp [digits_Parse.j5]) ?_)
      have : fin low v = (0, 18) := by unfold fin; rw [if_pos (.inl hv)]
      rw [this]; exact Ev.now _
    | false =>
      have hv : v ≤ 9223372036854775808 := by have := of_decide_eq_false hf.symm; omega
      refine ev_neg (by simp) ?_
      have := j5_ev low n v hv (hn rfl)
      cases low with
      | true => exact ev_pos rfl (by simpa using this)
      | false => exact ev_neg (by simp) (by simpa using this)
  | cons c rest ih =>
    intro pre v far n hl hf hn
    have hsz : (pre.length : Int) < ((mk (pre ++ c :: rest)).size : Int) := by rw [mk_size]; simp; omega
    have hb := bt_pre pre rest c
    have hc := UInt8.toNat_lt c
    refine Ev.step (f := fun k => if (c.toNat : Int) < 48 then digits_Parse.j4 k low (mk (pre ++ c :: rest)) n far pre.length c.toNat true else digits_Parse.j4 k low (mk (pre ++ c :: rest)) n far pre.length c.toNat (decide ((c.toNat : Int) > 57))) (fun k => by simp only [digits_Parse.l0]; rw [if_pos hsz, if_pos (by omega), hb]) ?_
    by_cases hd : isD c = true
    · obtain ⟨h48, h57⟩ := (isD_iff c).1 hd
      have e57 : decide ((c.toNat : Int) > 57) = false := decide_eq_false (by omega)
      refine ev_neg (by omega) ?_
      rw [e57]
      have hw : wrap64 ((pre.length : Int) + 1) = ((pre ++ [c]).length : Int) := by
        rw [w64 (by omega) (by simp at hl; omega)]; simp
      have hm : ((c.toNat : Int) - 48) % 256 = ((c.toNat - 48 : Nat) : Int) := by omega
      have hfin : finish low (c :: rest) v = finish low rest (vn v c) := by simp [finish, hd, valD_cons]
      have hpre : pre ++ c :: rest = (pre ++ [c]) ++ rest := by simp
      rw [hfin, hpre]
      have hl' : ((pre ++ [c]) ++ rest).length ≤ 4611686018427387904 := by rw [← hpre]; exact hl
      cases far with
      | true =>
        have hv : 9223372036854775808 < v := by simpa using hf.symm
        refine Ev.step (f := fun k => digits_Parse.l0 k low (mk ((pre ++ [c]) ++ rest)) n true ((pre ++ [c]).length : Int)) (fun k => by simp only [digits_Parse.j4, Bool.false_eq_true, if_false, if_true]; rw [hw]) ?_
        exact ih (pre ++ [c]) (vn v c) true n hl' (by unfold vn; rw [decide_eq_true (by omega)]) (by simp)
      | false =>
        have hv : v ≤ 9223372036854775808 := by have := of_decide_eq_false hf.symm; omega
        obtain rfl := hn rfl
        have ht : (-9223372036854775808 + ((c.toNat - 48 : Nat) : Int)).tdiv 10 = -(((9223372036854775808 - (c.toNat - 48)) / 10 : Nat) : Int) := by
          have e1 : -9223372036854775808 + ((c.toNat - 48 : Nat) : Int) = -((9223372036854775808 - (c.toNat - 48) : Nat) : Int) := by omega
          rw [e1, Int.neg_tdiv]
          rfl
        by_cases hfar : 9223372036854775808 < vn v c
        · refine Ev.step (f := fun k => digits_Parse.l0 k low (mk ((pre ++ [c]) ++ rest)) (-(v : Int)) true ((pre ++ [c]).length : Int)) (fun k => by simp only [digits_Parse.j4, Bool.false_eq_true, if_false, if_true]; rw [hm, if_pos (by rw [ht]; unfold vn at hfar; omega), hw]) ?_
          exact ih (pre ++ [c]) (vn v c) true _ hl' (by rw [decide_eq_true hfar]) (by simp)
        · refine Ev.step (f := fun k => digits_Parse.l0 k low (mk ((pre ++ [c]) ++ rest)) (-((vn v c : Nat) : Int)) false ((pre ++ [c]).length : Int)) (fun k => ?_) (ih (pre ++ [c]) (vn v c) false _ hl' (by rw [decide_eq_false hfar]) (fun _ => rfl))
          simp only [digits_Parse.j4, Bool.false_eq_true, if_false, if_true]
          rw [hm, if_neg (by rw [ht]; unfold vn at hfar; omega), hw]
          congr 1
          unfold vn at hfar ⊢
          unfold wrap64
          omega
    · have hfin : finish low (c :: rest) v = (0, 3) := by simp [finish, hd]
      rw [hfin]
      by_cases h48 : (c.toNat : Int) < 48
      · exact ev_pos h48 (Ev.step (f := fun _ => some (0, 3)) (fun k => by simp [digits_Parse.j4]) (Ev.now _))
      · have h57 : decide ((c.toNat : Int) > 57) = true := by
          refine decide_eq_true ?_
          have : ¬ (48 ≤ c.toNat ∧ c.toNat ≤ 57) := fun h => hd ((isD_iff c).2 h)
          omega
        refine ev_neg h48 ?_
        rw [h57]
        exact Ev.step (f := fun _ => some (0, 3)) (fun k => by simp [digits_Parse.j4]) (Ev.now _)

theorem j2_ev (low : Bool) (t : List UInt8) (bad : Bool) (hl : t.length ≤ 4611686018427387904) (hb : bad = badD low t) : Ev (fun k => digits_Parse.j2 k low (mk t) bad) (parseT low t) := by
  unfold parseT
  rw [← hb]
  cases bad with
  | true => exact Ev.step (f := fun _ => some (0, 3)) (fun k => by simp [digits_Parse.j2]) (Ev.now _)
  | false => exact Ev.step (f := fun k => digits_Parse.l0 k low (mk ([] ++ t)) 0 false (([] : List UInt8).length : Int)) (fun k => by simp [digits_Parse.j2]) (parse_loop low t [] 0 false 0 hl (by simp) (by simp))

theorem j1_ev (low : Bool) (t : List UInt8) (hl : t.length ≤ 4611686018427387904) : Ev (fun k => digits_Parse.j1 k low (mk t)) (parseT low t) := by
  have key : ∀ bad, bad = badD low t → Ev (fun k => digits_Parse.j2 k low (mk t) bad) (parseT low t) := fun bad => j2_ev low t bad hl
  cases t with
  | nil => exact Ev.step (f := fun k => digits_Parse.j2 k low (mk []) true) (fun k => by simp [digits_Parse.j1, mk_size]) (key true (by simp [badD]))
  | cons c t =>
    have hb := bt_head c t
    refine Ev.step (f := fun k => if (((c :: t).length : Nat) : Int) > 1 then (if (c.toNat : Int) = 48 then digits_Parse.j2 k low (mk (c :: t)) true else if low = true then digits_Parse.j2 k low (mk (c :: t)) ((c :: t) == [48]) else digits_Parse.j2 k low (mk (c :: t)) false) else if low = true then digits_Parse.j2 k low (mk (c :: t)) ((c :: t) == [48]) else digits_Parse.j2 k low (mk (c :: t)) false) (fun k => by
      simp only [digits_Parse.j1, mk_size, mk_toList, hb]
      rw [if_neg (by simp; omega)]
      by_cases h1 : (((c :: t).length : Nat) : Int) > 1
      · rw [if_pos h1, if_pos h1, if_pos (by omega)]
      · rw [if_neg h1, if_neg h1]) ?_
    have hc48 : (c.toNat : Int) = 48 ↔ c = 48 := by
      constructor
      · intro h; apply UInt8.toNat_inj.1; simpa using (by omega : c.toNat = 48)
      · rintro rfl; rfl
    refine ev_if (fun h1 => ev_if (fun h2 => key _ ?_) fun h2 => ?_) fun h1 => ?_
    · have h3 := hc48.1 h2
      have h4 : 1 < (c :: t).length := by omega
      simp [badD, h3] at h4 ⊢
      exact .inl (by omega)
    · have h3 : ¬ c = 48 := fun h => h2 (hc48.2 h)
      cases low with
      | true => exact ev_pos rfl (key _ (by simp [badD, h3]))
      | false => exact ev_neg (by simp) (key _ (by simp [badD, h3]))
    · have h4 : t = [] := by
        cases t with
        | nil => rfl
        | cons => simp at h1; omega
      subst h4
      cases low with
      | true => exact ev_pos rfl (key _ (by simp [badD]))
      | false => exact ev_neg (by simp) (key _ (by simp [badD]))

theorem parse_ev (l : List UInt8) (hl : l.length ≤ 4611686018427387904) : Ev (fun k => digits_Parse.f k (mk l)) (parseL l) := by
  unfold digits_Parse.f
  have hj0 : ∀ low, (low = true → l.head? = some 45) → (low = false → l.head? ≠ some 45) → Ev (fun k => digits_Parse.j0 k (mk l) low) (parseL l) := by
    intro low h1 h2
    cases low with
    | true =>
      cases l with
      | nil => simp at h1
      | cons c t =>
        refine Ev.step (f := fun k => digits_Parse.j1 k true (mk t)) (fun k => ?_) ?_
        · simp only [digits_Parse.j0, mk_from, if_true]
          rw [if_pos (by rw [mk_size]; simp; omega)]
          rfl
        · have e : parseL (c :: t) = parseT true t := by unfold parseL; rw [if_pos (h1 rfl)]; rfl
          rw [e]
          exact j1_ev true t (by simp at hl; omega)
    | false =>
      refine Ev.step (f := fun k => digits_Parse.j1 k false (mk l)) (fun k => by simp [digits_Parse.j0]) ?_
      have e : parseL l = parseT false l := by unfold parseL; rw [if_neg (h2 rfl)]
      rw [e]
      exact j1_ev false l hl
  cases l with
  | nil => exact ev_neg (by rw [mk_size]; simp) (hj0 false (by simp) (by simp))
  | cons c t =>
    refine ev_pos (by rw [mk_size]; simp) (ev_pos (by rw [mk_size]; simp) ?_)
    rw [bt_head]
    have hc45 : ((c.toNat : Int) == 45) = true ↔ c = 45 := by
      rw [beq_iff_eq]
      constructor
      · intro h; apply UInt8.toNat_inj.1; simpa using (by omega : c.toNat = 45)
      · rintro rfl; rfl
    refine hj0 _ (fun h => by simp [hc45.1 h]) (fun h h' => ?_)
    have : c = 45 := by simpa using h'
    rw [hc45.2 this] at h
    cases h
end Go.Proofs.Ythnkgnbemmndgaa.DigLaw
