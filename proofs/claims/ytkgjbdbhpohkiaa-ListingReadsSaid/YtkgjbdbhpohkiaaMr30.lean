import Derived.Test.YtkgjbdbhpohkiaaMr28
import Derived.Test.YtkgjbdbhpohkiaaMr29
import Derived.KernelRfl
import Derived.Test.YtkgjbdbhpohkiaaMr12
import Derived.Test.YtkgjbdbhpohkiaaMr6
import Derived.Test.YtkgjbdbhpohkiaaMr4
import Derived.Test.YtkgjbdbhpohkiaaMr7
import Derived.Test.YtkgjbdbhpohkiaaMr3
import Derived.Test.YtkgjbdbhpohkiaaMr23
-- from YtkgjbdbhpohkiaaSaidListingReads
section
namespace Go.Proofs.Ytkgjbdbhpohkiaa.ListingReadsSaid
open Go.RowKit Go.Proofs.Ytkgjbdbhpohkiaa.PLi Go.Proofs.Ytkgjbdbhpohkiaa.Open Go.Proofs.YtkgjbdbhpohkiaaW.PrintWords Go.Proofs.YtkgjbdbhpohkiaaW.PrintLast
set_option linter.unusedVariables false
def ListingReads.Good : Prop := ∀ (a0 : ByteArray), (a0.size ≤ 140737488351232) → ∃ k, l37_ListingReads.f k a0 = some true
end Go.Proofs.Ytkgjbdbhpohkiaa.ListingReadsSaid
end
-- from YtkgjbdbhpohkiaaLiDig
section
namespace Go.Proofs.Ytkgjbdbhpohkiaa.DigLaw
set_option linter.unusedSimpArgs false
open Go.RowKit Go.Proofs.YtkgjbdbhpohkiaaW.PrintWords Go.Proofs.YtkgjbdbhpohkiaaW.PrintLast Go.Proofs.YtkgjbdbhpohkiaaW.PrintMore Go.Proofs.Ytkgjbdbhpohkiaa.Str Go.Proofs.Ytkgjbdbhpohkiaa.Dig Go.Proofs.Ytkgjbdbhpohkiaa.PLi
def isD (c : UInt8) : Bool := decide (48 ≤ c.toNat) && decide (c.toNat ≤ 57)
def vn (n : Nat) (c : UInt8) : Nat := n * 10 + (c.toNat - 48)
def valD (v : Nat) (l : List UInt8) : Nat := l.foldl vn v
def fin (low : Bool) (V : Nat) : Int × Int := if 9223372036854775808 < V ∨ low = false ∧ V = 9223372036854775808 then (0, 18) else if low = true then (-(V : Int), 0) else ((V : Int), 0)
def finish (low : Bool) (rest : List UInt8) (v : Nat) : Int × Int := if rest.all isD = true then fin low (valD v rest) else (0, 3)
def badD (low : Bool) (t : List UInt8) : Bool := t.isEmpty || decide (1 < t.length) && t.head? == some 48 || low && t == [48]
def parseT (low : Bool) (t : List UInt8) : Int × Int := if badD low t = true then (0, 3) else finish low t 0
def parseL (l : List UInt8) : Int × Int := if l.head? = some 45 then parseT true l.tail else parseT false l
theorem isD_iff (c : UInt8) : isD c = true ↔ 48 ≤ c.toNat ∧ c.toNat ≤ 57 := by unfold isD; rw [Bool.and_eq_true, decide_eq_true_iff, decide_eq_true_iff]
theorem valD_cons (v : Nat) (c : UInt8) (l : List UInt8) : valD v (c :: l) = valD (vn v c) l := List.foldl_cons ..
theorem valD_ge : ∀ (l : List UInt8) (v : Nat), v ≤ valD v l := by
 intro l
 induction l with
 | nil => intro v; exact Nat.le_refl _
 | cons c l ih =>
  intro v
  have h1 : v ≤ vn v c := by unfold vn; omega
  rw [valD_cons]
  exact Nat.le_trans h1 (ih (vn v c))
theorem j5_ev (low : Bool) (n : Int) (v : Nat) (hv : v ≤ 9223372036854775808) (hn : n = -(v : Int)) :
  Ev (fun k => digits_Parse.j5 k low n (!low && n == -9223372036854775808)) (fin low v) := by
 refine Ev.step (f := fun _ => some (fin low v)) (fun k => ?_) (Ev.now _)
 unfold digits_Parse.j5 fin
 subst hn
 by_cases h : v = 9223372036854775808
 ·subst h
  cases low <;> simp
 ·have h1 : ¬ 9223372036854775808 < v := by omega
  have h2 : (-(v : Int) == -9223372036854775808) = false := by rw [beq_eq_false_iff_ne]; omega
  have h3 : wrap64 (v : Int) = (v : Int) := by unfold wrap64; omega
  cases low <;> simp [h, h1, h2, h3]
theorem parse_loop (low : Bool) : ∀ (rest pre : List UInt8) (v : Nat) (far : Bool) (n : Int), (pre ++ rest).length ≤ 4611686018427387904 → far = decide (9223372036854775808 < v) → (far = false → n = -(v : Int)) →
  Ev (fun k => digits_Parse.l0 k low (mk (pre ++ rest)) n far (pre.length : Int)) (finish low rest v) := by
 intro rest
 induction rest with
 | nil =>
  intro pre v far n hl hf hn
  have hsz : ¬ ((pre.length : Int) < ((mk (pre ++ [])).size : Int)) := by rw [mk_size]; simp
  refine Ev.step (f := fun k => if far = true then digits_Parse.j5 k low n true else if low = true then digits_Parse.j5 k low n false else digits_Parse.j5 k low n (n == -9223372036854775808)) (fun k => by simp only [digits_Parse.l0]; rw [if_neg hsz]) ?_
  have e : finish low [] v = fin low v := by simp [finish, valD]
  rw [e]
  cases far with
  | true =>
   have hv : 9223372036854775808 < v := by simpa using hf.symm
   refine ev_pos rfl (Ev.step (f := fun _ => some (0, 18)) (fun k => by simp [digits_Parse.j5]) ?_)
   have : fin low v = (0, 18) := by unfold fin; rw [if_pos (.inl hv)]
   rw [this]; exact Ev.now _
  | false =>
   have hv : v ≤ 9223372036854775808 := by have := of_decide_eq_false hf.symm; omega
   refine ev_neg (by simp) ?_
   have := j5_ev low n v hv (hn rfl)
   cases low with
   | true => exact ev_pos rfl (by simpa using this)
   | false => exact ev_neg (by simp) (by simpa using this)
 | cons c rest ih =>
  intro pre v far n hl hf hn
  have hsz : (pre.length : Int) < ((mk (pre ++ c :: rest)).size : Int) := by rw [mk_size]; simp; omega
  have hb := bt_pre pre rest c
  have hc := UInt8.toNat_lt c
  refine Ev.step (f := fun k => if (c.toNat : Int) < 48 then digits_Parse.j4 k low (mk (pre ++ c :: rest)) n far pre.length c.toNat true else digits_Parse.j4 k low (mk (pre ++ c :: rest)) n far pre.length c.toNat (decide ((c.toNat : Int) > 57))) (fun k => by simp only [digits_Parse.l0]; rw [if_pos hsz, if_pos (by omega), hb]) ?_
  by_cases hd : isD c = true
  ·obtain ⟨h48, h57⟩ := (isD_iff c).1 hd
   have e57 : decide ((c.toNat : Int) > 57) = false := decide_eq_false (by omega)
   refine ev_neg (by omega) ?_
   rw [e57]
   have hw : wrap64 ((pre.length : Int) + 1) = ((pre ++ [c]).length : Int) := by
    rw [w64 (by omega) (by simp at hl; omega)]; simp
   have hm : ((c.toNat : Int) - 48) % 256 = ((c.toNat - 48 : Nat) : Int) := by omega
   have hfin : finish low (c :: rest) v = finish low rest (vn v c) := by simp [finish, hd, valD_cons]
   have hpre : pre ++ c :: rest = (pre ++ [c]) ++ rest := by simp
   rw [hfin, hpre]
   have hl' : ((pre ++ [c]) ++ rest).length ≤ 4611686018427387904 := by rw [← hpre]; exact hl
   cases far with
   | true =>
    have hv : 9223372036854775808 < v := by simpa using hf.symm
    refine Ev.step (f := fun k => digits_Parse.l0 k low (mk ((pre ++ [c]) ++ rest)) n true ((pre ++ [c]).length : Int)) (fun k => by simp only [digits_Parse.j4, Bool.false_eq_true, if_false, if_true]; rw [hw]) ?_
    exact ih (pre ++ [c]) (vn v c) true n hl' (by unfold vn; rw [decide_eq_true (by omega)]) (by simp)
   | false =>
    have hv : v ≤ 9223372036854775808 := by have := of_decide_eq_false hf.symm; omega
    obtain rfl := hn rfl
    have ht : (-9223372036854775808 + ((c.toNat - 48 : Nat) : Int)).tdiv 10 = -(((9223372036854775808 - (c.toNat - 48)) / 10 : Nat) : Int) := by
     have e1 : -9223372036854775808 + ((c.toNat - 48 : Nat) : Int) = -((9223372036854775808 - (c.toNat - 48) : Nat) : Int) := by omega
     rw [e1, Int.neg_tdiv]
     rfl
    by_cases hfar : 9223372036854775808 < vn v c
    ·refine Ev.step (f := fun k => digits_Parse.l0 k low (mk ((pre ++ [c]) ++ rest)) (-(v : Int)) true ((pre ++ [c]).length : Int)) (fun k => by simp only [digits_Parse.j4, Bool.false_eq_true, if_false, if_true]; rw [hm, if_pos (by rw [ht]; unfold vn at hfar; omega), hw]) ?_
     exact ih (pre ++ [c]) (vn v c) true _ hl' (by rw [decide_eq_true hfar]) (by simp)
    ·refine Ev.step (f := fun k => digits_Parse.l0 k low (mk ((pre ++ [c]) ++ rest)) (-((vn v c : Nat) : Int)) false ((pre ++ [c]).length : Int)) (fun k => ?_) (ih (pre ++ [c]) (vn v c) false _ hl' (by rw [decide_eq_false hfar]) (fun _ => rfl))
     simp only [digits_Parse.j4, Bool.false_eq_true, if_false, if_true]
     rw [hm, if_neg (by rw [ht]; unfold vn at hfar; omega), hw]
     congr 1
     unfold vn at hfar ⊢
     unfold wrap64
     omega
  ·have hfin : finish low (c :: rest) v = (0, 3) := by simp [finish, hd]
   rw [hfin]
   by_cases h48 : (c.toNat : Int) < 48
   ·exact ev_pos h48 (Ev.step (f := fun _ => some (0, 3)) (fun k => by simp [digits_Parse.j4]) (Ev.now _))
   ·have h57 : decide ((c.toNat : Int) > 57) = true := by
     refine decide_eq_true ?_
     have : ¬ (48 ≤ c.toNat ∧ c.toNat ≤ 57) := fun h => hd ((isD_iff c).2 h)
     omega
    refine ev_neg h48 ?_
    rw [h57]
    exact Ev.step (f := fun _ => some (0, 3)) (fun k => by simp [digits_Parse.j4]) (Ev.now _)
theorem j2_ev (low : Bool) (t : List UInt8) (bad : Bool) (hl : t.length ≤ 4611686018427387904) (hb : bad = badD low t) : Ev (fun k => digits_Parse.j2 k low (mk t) bad) (parseT low t) := by
 unfold parseT
 rw [← hb]
 cases bad with
 | true => exact Ev.step (f := fun _ => some (0, 3)) (fun k => by simp [digits_Parse.j2]) (Ev.now _)
 | false => exact Ev.step (f := fun k => digits_Parse.l0 k low (mk ([] ++ t)) 0 false (([] : List UInt8).length : Int)) (fun k => by simp [digits_Parse.j2]) (parse_loop low t [] 0 false 0 hl (by simp) (by simp))
theorem j1_ev (low : Bool) (t : List UInt8) (hl : t.length ≤ 4611686018427387904) : Ev (fun k => digits_Parse.j1 k low (mk t)) (parseT low t) := by
 have key : ∀ bad, bad = badD low t → Ev (fun k => digits_Parse.j2 k low (mk t) bad) (parseT low t) := fun bad => j2_ev low t bad hl
 cases t with
 | nil => exact Ev.step (f := fun k => digits_Parse.j2 k low (mk []) true) (fun k => by simp [digits_Parse.j1, mk_size]) (key true (by simp [badD]))
 | cons c t =>
  have hb := bt_head c t
  refine Ev.step (f := fun k => if (((c :: t).length : Nat) : Int) > 1 then (if (c.toNat : Int) = 48 then digits_Parse.j2 k low (mk (c :: t)) true else if low = true then digits_Parse.j2 k low (mk (c :: t)) ((c :: t) == [48]) else digits_Parse.j2 k low (mk (c :: t)) false) else if low = true then digits_Parse.j2 k low (mk (c :: t)) ((c :: t) == [48]) else digits_Parse.j2 k low (mk (c :: t)) false) (fun k => by
   simp only [digits_Parse.j1, mk_size, mk_toList, hb]
   rw [if_neg (by simp; omega)]
   by_cases h1 : (((c :: t).length : Nat) : Int) > 1
   ·rw [if_pos h1, if_pos h1, if_pos (by omega)]
   ·rw [if_neg h1, if_neg h1]) ?_
  have hc48 : (c.toNat : Int) = 48 ↔ c = 48 := by
   constructor
   ·intro h; apply UInt8.toNat_inj.1; simpa using (by omega : c.toNat = 48)
   ·rintro rfl; rfl
  refine ev_if (fun h1 => ev_if (fun h2 => key _ ?_) fun h2 => ?_) fun h1 => ?_
  ·have h3 := hc48.1 h2
   have h4 : 1 < (c :: t).length := by omega
   simp [badD, h3] at h4 ⊢
   exact .inl (by omega)
  ·have h3 : ¬ c = 48 := fun h => h2 (hc48.2 h)
   cases low with
   | true => exact ev_pos rfl (key _ (by simp [badD, h3]))
   | false => exact ev_neg (by simp) (key _ (by simp [badD, h3]))
  ·have h4 : t = [] := by
    cases t with
    | nil => rfl
    | cons => simp at h1; omega
   subst h4
   cases low with
   | true => exact ev_pos rfl (key _ (by simp [badD]))
   | false => exact ev_neg (by simp) (key _ (by simp [badD]))
theorem parse_ev (l : List UInt8) (hl : l.length ≤ 4611686018427387904) : Ev (fun k => digits_Parse.f k (mk l)) (parseL l) := by
 unfold digits_Parse.f
 have hj0 : ∀ low, (low = true → l.head? = some 45) → (low = false → l.head? ≠ some 45) → Ev (fun k => digits_Parse.j0 k (mk l) low) (parseL l) := by
  intro low h1 h2
  cases low with
  | true =>
   cases l with
   | nil => simp at h1
   | cons c t =>
    refine Ev.step (f := fun k => digits_Parse.j1 k true (mk t)) (fun k => ?_) ?_
    ·simp only [digits_Parse.j0, mk_from, if_true]
     rw [if_pos (by rw [mk_size]; simp; omega)]
     rfl
    ·have e : parseL (c :: t) = parseT true t := by unfold parseL; rw [if_pos (h1 rfl)]; rfl
     rw [e]
     exact j1_ev true t (by simp at hl; omega)
  | false =>
   refine Ev.step (f := fun k => digits_Parse.j1 k false (mk l)) (fun k => by simp [digits_Parse.j0]) ?_
   have e : parseL l = parseT false l := by unfold parseL; rw [if_neg (h2 rfl)]
   rw [e]
   exact j1_ev false l hl
 cases l with
 | nil => exact ev_neg (by rw [mk_size]; simp) (hj0 false (by simp) (by simp))
 | cons c t =>
  refine ev_pos (by rw [mk_size]; simp) (ev_pos (by rw [mk_size]; simp) ?_)
  rw [bt_head]
  have hc45 : ((c.toNat : Int) == 45) = true ↔ c = 45 := by
   rw [beq_iff_eq]
   constructor
   ·intro h; apply UInt8.toNat_inj.1; simpa using (by omega : c.toNat = 45)
   ·rintro rfl; rfl
  refine hj0 _ (fun h => by simp [hc45.1 h]) (fun h h' => ?_)
  have : c = 45 := by simpa using h'
  rw [hc45.2 this] at h
  cases h
theorem index_ev (l : List UInt8) (hl : l.length ≤ 4611686018427387904) (most : Int) : Ev (fun k => digits_Index.f k (mk l) most) (if (parseL l).2 = 0 then (if (parseL l).1 < 0 ∨ (parseL l).1 > most then (0, 18) else ((parseL l).1, 0)) else (0, (parseL l).2)) := by
 unfold digits_Index.f
 refine Ev.bind (f := fun _ bt => if bt.2 = 0 then (if bt.1 < 0 then some (0, 18) else if bt.1 > most then some (0, 18) else some (bt.1, 0)) else some (0, bt.2)) (parse_ev l hl) ?_
 refine ev_if (fun h => ?_) (fun h => ?_)
 ·rw [if_pos h]
  refine ev_if (fun h1 => ?_) (fun h1 => ev_if (fun h2 => ?_) (fun h2 => ?_))
  ·rw [if_pos (.inl h1)]; exact Ev.now _
  ·rw [if_pos (.inr h2)]; exact Ev.now _
  ·rw [if_neg (by omega)]; exact Ev.now _
 ·rw [if_neg h]; exact Ev.now _
end Go.Proofs.Ytkgjbdbhpohkiaa.DigLaw
end
-- from YtkgjbdbhpohkiaaLiDigR
section
namespace Go.Proofs.Ytkgjbdbhpohkiaa.DigLaw
set_option linter.unusedSimpArgs false
set_option linter.unusedVariables false
open Go.RowKit Go.Proofs.YtkgjbdbhpohkiaaW.PrintWords Go.Proofs.YtkgjbdbhpohkiaaW.PrintLast Go.Proofs.YtkgjbdbhpohkiaaW.PrintMore Go.Proofs.Ytkgjbdbhpohkiaa.Str Go.Proofs.Ytkgjbdbhpohkiaa.Dig Go.Proofs.Ytkgjbdbhpohkiaa.PLi
theorem valD_from (v : Nat) : ∀ (l : List UInt8), valD v l = v * 10 ^ l.length + valD 0 l := by
 intro l
 induction l generalizing v with
 | nil => simp [valD]
 | cons c l ih =>
  rw [valD_cons, valD_cons, ih (vn v c), ih (vn 0 c)]
  unfold vn
  simp only [List.length_cons, Nat.pow_succ]
  rw [Nat.add_mul, Nat.zero_mul, Nat.zero_add, Nat.mul_assoc v 10, Nat.mul_comm 10]
  omega
theorem valD_lt : ∀ (l : List UInt8), l.all isD = true → valD 0 l < 10 ^ l.length := by
 intro l
 induction l with
 | nil => intro _; simp [valD]
 | cons c l ih =>
  intro h
  rw [List.all_cons, Bool.and_eq_true] at h
  obtain ⟨h1, h2⟩ := (isD_iff c).1 h.1
  have := ih h.2
  rw [valD_cons, valD_from]
  unfold vn
  simp only [List.length_cons, Nat.pow_succ]
  have h3 : (0 * 10 + (c.toNat - 48)) * 10 ^ l.length ≤ 9 * 10 ^ l.length := Nat.mul_le_mul_right _ (by omega)
  omega
theorem less_iff : ∀ (s t : List UInt8), s.length = t.length → s.all isD = true → t.all isD = true → (Op.bytesLess s t = decide (valD 0 s < valD 0 t)) := by
 intro s
 induction s with
 | nil =>
  intro t hl _ _
  have : t = [] := List.length_eq_zero_iff.1 hl.symm
  subst this
  simp [Op.bytesLess, valD]
 | cons a s ih =>
  intro t hl hs ht
  cases t with
  | nil => simp at hl
  | cons b t =>
   rw [List.all_cons, Bool.and_eq_true] at hs ht
   obtain ⟨a1, a2⟩ := (isD_iff a).1 hs.1
   obtain ⟨b1, b2⟩ := (isD_iff b).1 ht.1
   have hl2 : s.length = t.length := by simpa using hl
   have hi := ih t hl2 hs.2 ht.2
   have l1 := valD_lt s hs.2
   have l2 := valD_lt t ht.2
   rw [valD_cons, valD_cons, valD_from (vn 0 a), valD_from (vn 0 b)]
   unfold vn
   rw [hl2] at l1 ⊢
   simp only [Op.bytesLess, hi, Nat.zero_mul, Nat.zero_add]
   by_cases hab : a < b
   ·have h3 : a.toNat < b.toNat := UInt8.lt_iff_toNat_lt.1 hab
    have h4 : (a.toNat - 48 + 1) * 10 ^ t.length ≤ (b.toNat - 48) * 10 ^ t.length := Nat.mul_le_mul_right _ (by omega)
    rw [Nat.add_mul, Nat.one_mul] at h4
    have h5 : (a.toNat - 48) * 10 ^ t.length + valD 0 s < (b.toNat - 48) * 10 ^ t.length + valD 0 t := by omega
    simp [hab, h5]
   ·by_cases hba : a = b
    ·subst hba
     simp
    ·have h3 : b.toNat < a.toNat := by
      have h6 : ¬ a.toNat < b.toNat := fun h => hab (UInt8.lt_iff_toNat_lt.2 h)
      have h7 : a.toNat ≠ b.toNat := fun h => hba (UInt8.toNat_inj.1 h)
      omega
     have h4 : (b.toNat - 48 + 1) * 10 ^ t.length ≤ (a.toNat - 48) * 10 ^ t.length := Nat.mul_le_mul_right _ (by omega)
     rw [Nat.add_mul, Nat.one_mul] at h4
     have h5 : ¬ (a.toNat - 48) * 10 ^ t.length + valD 0 s < (b.toNat - 48) * 10 ^ t.length + valD 0 t := by omega
     simp [hab, hba, h5]
theorem c48 (c : UInt8) : (c.toNat : Int) = 48 ↔ c = 48 := by
 constructor
 ·intro h; apply UInt8.toNat_inj.1; simpa using (by omega : c.toNat = 48)
 ·rintro rfl; rfl
theorem ref_digits_loop : ∀ (rest pre : List UInt8), (pre ++ rest).length ≤ 4611686018427387904 → Ev (fun k => r01_digits.l0 k (mk (pre ++ rest)) (pre.length : Int)) (rest.all isD) := by
 intro rest
 induction rest with
 | nil =>
  intro pre _
  exact Ev.step (f := fun _ => some true) (fun k => by simp only [r01_digits.l0]; rw [if_neg (by rw [mk_size]; simp)]) (Ev.now _)
 | cons c rest ih =>
  intro pre hl
  have hsz : (pre.length : Int) < ((mk (pre ++ c :: rest)).size : Int) := by rw [mk_size]; simp; omega
  refine Ev.step (f := fun k => if (c.toNat : Int) < 48 then some false else if (c.toNat : Int) > 57 then some false else r01_digits.l0 k (mk (pre ++ c :: rest)) (wrap64 (pre.length + 1))) (fun k => by simp only [r01_digits.l0]; rw [if_pos hsz, if_pos (by omega), bt_pre]) ?_
  have hn : ¬ isD c = true → (c :: rest).all isD = false := fun h => by simp [h]
  refine ev_if (fun h => ?_) (fun h => ev_if (fun h2 => ?_) (fun h2 => ?_))
  ·rw [hn (fun e => by have := (isD_iff c).1 e; omega)]; exact Ev.now _
  ·rw [hn (fun e => by have := (isD_iff c).1 e; omega)]; exact Ev.now _
  ·have hc : isD c = true := (isD_iff c).2 ⟨by omega, by omega⟩
   have hw : wrap64 ((pre.length : Int) + 1) = ((pre ++ [c]).length : Int) := by
    rw [w64 (by omega) (by simp at hl; omega)]; simp
   have hpre : pre ++ c :: rest = (pre ++ [c]) ++ rest := by simp
   rw [List.all_cons, hc, Bool.true_and, hw, hpre]
   exact ih (pre ++ [c]) (by rw [← hpre]; exact hl)
def okD (t : List UInt8) : Bool := !t.isEmpty && !(decide (1 < t.length) && t.head? == some 48) && t.all isD
theorem ref_digits (t : List UInt8) (hl : t.length ≤ 4611686018427387904) : Ev (fun k => r01_digits.f k (mk t)) (okD t) := by
 unfold r01_digits.f
 have j : ∀ b : Bool, (b = true → okD t = false) → (b = false → okD t = t.all isD) → Ev (fun k => r01_digits.j0 k (mk t) b) (okD t) := by
  intro b h1 h2
  cases b with
  | true => rw [h1 rfl]; exact Ev.step (f := fun _ => some false) (fun k => by simp [r01_digits.j0]) (Ev.now _)
  | false => rw [h2 rfl]; exact Ev.step (f := fun k => r01_digits.l0 k (mk ([] ++ t)) (([] : List UInt8).length : Int)) (fun k => by simp [r01_digits.j0]) (ref_digits_loop t [] hl)
 rw [mk_toList, mk_size]
 refine ev_if (fun h => ?_) (fun h => ev_if (fun h1 => ev_pos (by omega) ?_) (fun h1 => ?_))
 ·subst h; exact j true (fun _ => rfl) (fun e => by cases e)
 ·cases t with
  | nil => exact absurd rfl h
  | cons c t =>
   rw [bt_head]
   refine j _ (fun e => ?_) (fun e => ?_)
   ·have : c = 48 := (c48 c).1 (by simpa using e)
    subst this
    have h2 : decide (1 < (48 :: t).length) = true := decide_eq_true (by omega)
    simp only [okD, h2]; simp
   ·have : ¬ c = 48 := fun e2 => by rw [(c48 c).2 e2] at e; simp at e
    simp [okD, this]
 ·refine j false (fun e => by cases e) (fun _ => ?_)
  have h2 : decide (1 < t.length) = false := decide_eq_false (by omega)
  have h3 : t.isEmpty = false := by simpa using h
  simp [okD, h2, h3]
theorem ref_above_loop : ∀ (s t pre : List UInt8), s.length = t.length → (pre ++ s).length ≤ 4611686018427387904 → Ev (fun k => r01_above.l0 k (mk (pre ++ s)) (mk (pre ++ t)) (pre.length : Int)) (Op.bytesLess t s) := by
 intro s
 induction s with
 | nil =>
  intro t pre hl _
  have : t = [] := List.length_eq_zero_iff.1 hl.symm
  subst this
  exact Ev.step (f := fun _ => some false) (fun k => by simp only [r01_above.l0]; rw [if_neg (by rw [mk_size]; simp)]) (Ev.now _)
 | cons a s ih =>
  intro t pre hl hn
  cases t with
  | nil => simp at hl
  | cons b t =>
   have hsz : (pre.length : Int) < ((mk (pre ++ a :: s)).size : Int) := by rw [mk_size]; simp; omega
   have hsz2 : (pre.length : Int) < ((mk (pre ++ b :: t)).size : Int) := by rw [mk_size]; simp; omega
   refine Ev.step (f := fun k => if (a.toNat : Int) = (b.toNat : Int) then r01_above.l0 k (mk (pre ++ a :: s)) (mk (pre ++ b :: t)) (wrap64 (pre.length + 1)) else some (decide ((a.toNat : Int) > (b.toNat : Int)))) (fun k => by simp only [r01_above.l0]; rw [if_pos hsz, if_pos (by omega), if_pos hsz2, bt_pre, bt_pre]) ?_
   refine ev_if (fun h => ?_) (fun h => ?_)
   ·have : a = b := UInt8.toNat_inj.1 (by omega)
    subst this
    have hw : wrap64 ((pre.length : Int) + 1) = ((pre ++ [a]).length : Int) := by
     rw [w64 (by omega) (by simp at hn; omega)]; simp
    have e1 : pre ++ a :: s = (pre ++ [a]) ++ s := by simp
    have e2 : pre ++ a :: t = (pre ++ [a]) ++ t := by simp
    rw [hw, e1, e2]
    have e3 : Op.bytesLess (a :: t) (a :: s) = Op.bytesLess t s := by
     have : ¬ a < a := fun h => by have := UInt8.lt_iff_toNat_lt.1 h; omega
     simp [Op.bytesLess, this]
    rw [e3]
    exact ih t (pre ++ [a]) (by simpa using hl) (by rw [← e1]; exact hn)
   ·have e : Op.bytesLess (b :: t) (a :: s) = decide ((a.toNat : Int) > (b.toNat : Int)) := by
     have hne : ¬ b = a := fun e => h (by rw [e])
     simp only [Op.bytesLess]
     by_cases hlt : b < a
     ·have := UInt8.lt_iff_toNat_lt.1 hlt
      rw [decide_eq_true (by omega : (a.toNat : Int) > (b.toNat : Int))]
      simp [hlt]
     ·have : ¬ b.toNat < a.toNat := fun e => hlt (UInt8.lt_iff_toNat_lt.2 e)
      rw [decide_eq_false (by omega : ¬ (a.toNat : Int) > (b.toNat : Int))]
      simp [hlt, hne]
    rw [e]; exact Ev.now _
theorem ref_fits (t M : List UInt8) (hl : t.length ≤ 4611686018427387904) : Ev (fun k => r01_fits.f k (mk t) (mk M)) (if t.length = M.length then !(Op.bytesLess M t) else decide (t.length < M.length)) := by
 unfold r01_fits.f
 rw [mk_size, mk_size]
 refine ev_if (fun h => ?_) (fun h => ?_)
 ·have h2 : t.length = M.length := by omega
  rw [if_pos h2]
  refine Ev.bind ?_ (Ev.now _)
  have := ref_above_loop t M [] h2 hl
  simpa [r01_above.f] using this
 ·have h2 : ¬ t.length = M.length := by omega
  rw [if_neg h2]
  have e : decide ((t.length : Int) < (M.length : Int)) = decide (t.length < M.length) := by
   by_cases h3 : t.length < M.length
   ·rw [decide_eq_true h3, decide_eq_true (by omega)]
   ·rw [decide_eq_false h3, decide_eq_false (by omega)]
  rw [e]; exact Ev.now _
theorem valD_low (t : List UInt8) (h : okD t = true) (hl : 1 < t.length) : 10 ^ (t.length - 1) ≤ valD 0 t := by
 cases t with
 | nil => simp at hl
 | cons c t =>
  have h1 : decide (1 < (c :: t).length) = true := decide_eq_true hl
  simp only [okD, h1, Bool.and_eq_true, List.all_cons] at h
  obtain ⟨⟨_, h2⟩, h3, _⟩ := h
  obtain ⟨h4, h5⟩ := (isD_iff c).1 h3
  have h6 : c.toNat ≠ 48 := by
   intro e
   have : c = 48 := UInt8.toNat_inj.1 (by rw [e]; rfl)
   subst this
   simp at h2
  rw [valD_cons, valD_from]
  have h7 : 1 * 10 ^ t.length ≤ vn 0 c * 10 ^ t.length := Nat.mul_le_mul_right _ (by unfold vn; omega)
  simp only [List.length_cons, Nat.add_sub_cancel]
  omega
theorem fits_iff (t M : List UInt8) (h : okD t = true) (hM : M.length = 19) (hMd : M.all isD = true) (hv : 10 ^ 18 ≤ valD 0 M) : (if t.length = M.length then !(Op.bytesLess M t) else decide (t.length < M.length)) = decide (valD 0 t ≤ valD 0 M) := by
 have hd : t.all isD = true := by unfold okD at h; rw [Bool.and_eq_true] at h; exact h.2
 have l1 := valD_lt t hd
 have l2 := valD_lt M hMd
 rw [hM] at l2
 split
 ·rename_i he
  rw [less_iff M t he.symm hMd hd]
  by_cases h3 : valD 0 M < valD 0 t
  ·rw [decide_eq_true h3, decide_eq_false (by omega)]; rfl
  ·rw [decide_eq_false h3, decide_eq_true (by omega)]; rfl
 ·rename_i he
  rw [hM] at he ⊢
  by_cases h3 : t.length < 19
  ·have : 10 ^ t.length ≤ 10 ^ 18 := Nat.pow_le_pow_right (by omega) (by omega)
   rw [decide_eq_true h3, decide_eq_true (by omega)]
  ·have h4 := valD_low t h (by omega)
   have : 10 ^ 19 ≤ 10 ^ (t.length - 1) := Nat.pow_le_pow_right (by omega) (by omega)
   rw [decide_eq_false h3, decide_eq_false (by omega)]
theorem ref_parse_loop (low : Bool) : ∀ (rest pre : List UInt8) (v : Nat) (n : Int), (pre ++ rest).length ≤ 4611686018427387904 → rest.all isD = true → n = (if low = true then -(v : Int) else (v : Int)) → valD v rest ≤ (if low = true then 9223372036854775808 else 9223372036854775807) →
  Ev (fun k => r01_Parse.l0 k (mk (pre ++ rest)) low n (pre.length : Int)) (if low = true then -(valD v rest : Int) else (valD v rest : Int), 0) := by
 intro rest
 induction rest with
 | nil =>
  intro pre v n _ _ hn _
  subst hn
  exact Ev.step (f := fun _ => some _) (fun k => by simp only [r01_Parse.l0]; rw [if_neg (by rw [mk_size]; simp)]; rfl) (Ev.now _)
 | cons c rest ih =>
  intro pre v n hl hd hn hv
  rw [List.all_cons, Bool.and_eq_true] at hd
  obtain ⟨h1, h2⟩ := (isD_iff c).1 hd.1
  have hsz : (pre.length : Int) < ((mk (pre ++ c :: rest)).size : Int) := by rw [mk_size]; simp; omega
  have hw : wrap64 ((pre.length : Int) + 1) = ((pre ++ [c]).length : Int) := by
   rw [w64 (by omega) (by simp at hl; omega)]; simp
  have hpre : pre ++ c :: rest = (pre ++ [c]) ++ rest := by simp
  have hdw : wrap64 (wrap64 (c.toNat : Int) - 48) = ((c.toNat - 48 : Nat) : Int) := by
   rw [w64 (x := (c.toNat : Int)) (by omega) (by omega), w64 (by omega) (by omega)]; omega
  have hge := valD_ge rest (vn v c)
  rw [valD_cons] at hv ⊢
  refine Ev.step (f := fun k => r01_Parse.l0 k (mk ((pre ++ [c]) ++ rest)) low (if low = true then -((vn v c : Nat) : Int) else ((vn v c : Nat) : Int)) ((pre ++ [c]).length : Int)) (fun k => ?_) (ih (pre ++ [c]) (vn v c) _ (by rw [← hpre]; exact hl) hd.2 rfl hv)
  simp only [r01_Parse.l0]
  rw [if_pos hsz, if_pos (by omega), bt_pre, hdw, hw, hpre]
  subst hn
  cases low with
  | true =>
   simp only [if_true] at hv ⊢
   have hle := Nat.le_trans hge hv
   clear hge hv
   unfold vn at hle ⊢
   rw [w64 (x := -(v : Int) * 10) (by omega) (by omega), w64 (by omega) (by omega)]
   have e9 : -(v : Int) * 10 - ((c.toNat - 48 : Nat) : Int) = -((v * 10 + (c.toNat - 48) : Nat) : Int) := by omega
   rw [e9]
  | false =>
   simp only [Bool.false_eq_true, if_false] at hv ⊢
   have hle := Nat.le_trans hge hv
   clear hge hv
   unfold vn at hle ⊢
   rw [w64 (x := (v : Int) * 10) (by omega) (by omega), w64 (by omega) (by omega)]
   have e9 : (v : Int) * 10 + ((c.toNat - 48 : Nat) : Int) = ((v * 10 + (c.toNat - 48) : Nat) : Int) := by omega
   rw [e9]
theorem bad_okD (low : Bool) (t : List UInt8) : (!(okD t) || low && t == [48]) = (badD low t || !(t.all isD)) := by
 unfold okD badD
 cases h1 : t.isEmpty <;> cases h2 : (decide (1 < t.length) && t.head? == some 48) <;> cases h3 : t.all isD <;> cases h4 : (low && t == [48]) <;> rfl
theorem ref_j1 (low : Bool) (t : List UInt8) (hl : t.length ≤ 4611686018427387904) : Ev (fun k => r01_Parse.j1 k (mk t) low) (parseT low t) := by
 have j2 : ∀ b, b = (badD low t || !(t.all isD)) → Ev (fun k => r01_Parse.j2 k (mk t) low b) (parseT low t) := by
  intro b hb
  cases b with
  | true =>
   have e : parseT low t = (0, 3) := by
    unfold parseT
    by_cases h : badD low t = true
    ·rw [if_pos h]
    ·rw [if_neg h]
     have : t.all isD = false := by
      cases h5 : t.all isD with
      | false => rfl
      | true => rw [h5] at hb; simp at hb; exact absurd hb h
     unfold finish; rw [this]; rfl
   rw [e]
   exact Ev.step (f := fun _ => some (0, 3)) (fun k => by simp [r01_Parse.j2]) (Ev.now _)
  | false =>
   have hb2 : badD low t = false ∧ t.all isD = true := by
    cases h5 : t.all isD <;> cases h6 : badD low t <;> rw [h5, h6] at hb <;> simp at hb ⊢
   have hok : okD t = true := by
    have := bad_okD low t
    rw [← hb] at this
    cases h5 : okD t with
    | true => rfl
    | false => rw [h5] at this; simp at this
   have e : parseT low t = fin low (valD 0 t) := by
    unfold parseT finish
    rw [if_neg (by rw [hb2.1]; simp), if_pos hb2.2]
   rw [e]
   have j3 : ∀ (b3 : Bool), (b3 = true → 9223372036854775808 < valD 0 t ∨ low = false ∧ valD 0 t = 9223372036854775808) → (b3 = false → valD 0 t ≤ (if low = true then 9223372036854775808 else 9223372036854775807)) → Ev (fun k => r01_Parse.j3 k (mk t) low b3) (fin low (valD 0 t)) := by
    intro b3 h1 h2
    cases b3 with
    | true =>
     unfold fin; rw [if_pos (h1 rfl)]
     exact Ev.step (f := fun _ => some (0, 18)) (fun k => by simp [r01_Parse.j3]) (Ev.now _)
    | false =>
     have h3 := h2 rfl
     have := ref_parse_loop low t [] 0 0 hl hb2.2 (by cases low <;> simp) h3
     have e2 : fin low (valD 0 t) = (if low = true then -(valD 0 t : Int) else (valD 0 t : Int), 0) := by
      unfold fin
      cases low with
      | true =>
       simp only [if_true] at h3 ⊢
       rw [if_neg (by rintro (e | ⟨e, _⟩) <;> first | omega | cases e)]
      | false =>
       simp only [Bool.false_eq_true, if_false] at h3 ⊢
       rw [if_neg (by rintro (e | ⟨_, e⟩) <;> omega)]
     rw [e2]
     exact Ev.step (f := fun k => r01_Parse.l0 k (mk ([] ++ t)) low 0 (([] : List UInt8).length : Int)) (fun k => by simp [r01_Parse.j3]) this
   have m8 : valD 0 [57, 50, 50, 51, 51, 55, 50, 48, 51, 54, 56, 53, 52, 55, 55, 53, 56, 48, 56] = 9223372036854775808 := by decide +kernel
   have m7 : valD 0 [57, 50, 50, 51, 51, 55, 50, 48, 51, 54, 56, 53, 52, 55, 55, 53, 56, 48, 55] = 9223372036854775807 := by decide +kernel
   cases low with
   | true =>
    refine Ev.step (f := fun k => (r01_fits.f k (mk t) (mk [57, 50, 50, 51, 51, 55, 50, 48, 51, 54, 56, 53, 52, 55, 55, 53, 56, 48, 56])).bind fun t129 => (if t129 = true then (r01_Parse.j3 k (mk t) true false) else (r01_Parse.j3 k (mk t) true true))) (fun k => by simp [r01_Parse.j2]) ?_
    refine Ev.bind (ref_fits t _ hl) ?_
    rw [fits_iff t _ hok rfl (by decide +kernel) (by rw [m8]; decide), m8]
    refine ev_if (fun h => j3 false (by simp) (fun _ => ?_)) (fun h => j3 true (fun _ => ?_) (by simp))
    ·simpa using h
    ·left
     rcases Nat.lt_or_ge 9223372036854775808 (valD 0 t) with h2 | h2
     ·exact h2
     ·exact absurd (decide_eq_true h2) h
   | false =>
    refine Ev.step (f := fun k => (r01_fits.f k (mk t) (mk [57, 50, 50, 51, 51, 55, 50, 48, 51, 54, 56, 53, 52, 55, 55, 53, 56, 48, 55])).bind fun t130 => (r01_Parse.j3 k (mk t) false (!t130))) (fun k => by simp [r01_Parse.j2]) ?_
    refine Ev.bind (ref_fits t _ hl) ?_
    rw [fits_iff t _ hok rfl (by decide +kernel) (by rw [m7]; decide), m7]
    refine j3 _ (fun h => ?_) (fun h => ?_)
    ·rcases Nat.lt_or_ge 9223372036854775807 (valD 0 t) with h2 | h2
     ·rcases Nat.lt_or_ge 9223372036854775808 (valD 0 t) with h3 | h3
      ·exact .inl h3
      ·exact .inr ⟨rfl, Nat.le_antisymm h3 h2⟩
     ·rw [decide_eq_true h2] at h; cases h
    ·have : valD 0 t ≤ 9223372036854775807 := by
      rcases Nat.lt_or_ge 9223372036854775807 (valD 0 t) with h2 | h2
      ·rw [decide_eq_false (Nat.not_le.2 h2)] at h; cases h
      ·exact h2
     simpa using this
 have hd := ref_digits t hl
 refine Ev.step (f := fun k => (r01_digits.f k (mk t)).bind fun t128 => (if t128 = true then (if low = true then (r01_Parse.j2 k (mk t) low (t == [48])) else (r01_Parse.j2 k (mk t) low false)) else (r01_Parse.j2 k (mk t) low true))) (fun k => by simp only [r01_Parse.j1, mk_toList]) ?_
 refine Ev.bind hd ?_
 have hbb := bad_okD low t
 refine ev_if (fun h => ev_if (fun h2 => j2 _ ?_) (fun h2 => j2 _ ?_)) (fun h => j2 _ ?_)
 ·rw [← hbb, h, h2]; rfl
 ·rw [← hbb, h]; cases low with
  | true => exact absurd rfl h2
  | false => rfl
 ·rw [← hbb]; cases h5 : okD t with
  | true => exact absurd h5 h
  | false => rfl
theorem ref_parse (l : List UInt8) (hl : l.length ≤ 4611686018427387904) : Ev (fun k => r01_Parse.f k (mk l)) (parseL l) := by
 unfold r01_Parse.f
 have j0 : ∀ b : Bool, (b = true ↔ l.head? = some 45) → Ev (fun k => r01_Parse.j0 k (mk l) (mk l) false b) (parseL l) := by
  intro b hb
  cases b with
  | true =>
   cases l with
   | nil => simp at hb
   | cons c t =>
    have e : parseL (c :: t) = parseT true t := by unfold parseL; rw [if_pos (hb.1 rfl)]; rfl
    rw [e]
    refine Ev.step (f := fun k => r01_Parse.j1 k (mk t) true) (fun k => ?_) (ref_j1 true t (by simp at hl; omega))
    simp only [r01_Parse.j0, if_true, mk_from]
    rw [if_pos (by rw [mk_size]; simp; omega)]
    rfl
  | false =>
   have e : parseL l = parseT false l := by unfold parseL; rw [if_neg (fun h => by have := hb.2 h; cases this)]
   rw [e]
   exact Ev.step (f := fun k => r01_Parse.j1 k (mk l) false) (fun k => by simp [r01_Parse.j0]) (ref_j1 false l hl)
 rw [mk_toList]
 refine ev_if (fun h => ?_) (fun h => ?_)
 ·subst h; exact j0 false (by simp)
 ·cases l with
  | nil => exact absurd rfl h
  | cons c t =>
   refine ev_pos (by rw [mk_size]; simp) ?_
   rw [bt_head]
   refine j0 _ ?_
   rw [beq_iff_eq]
   constructor
   ·intro h
    have : c = 45 := UInt8.toNat_inj.1 (by simpa using (by omega : c.toNat = 45))
    simp [this]
   ·intro h
    have : c = 45 := by simpa using h
    subst this; rfl
theorem ref_index (l : List UInt8) (hl : l.length ≤ 4611686018427387904) (most : Int) : Ev (fun k => r01_Index.f k (mk l) most) (if (parseL l).2 = 0 then (if (parseL l).1 < 0 ∨ (parseL l).1 > most then (0, 18) else ((parseL l).1, 0)) else (0, (parseL l).2)) := by
 unfold r01_Index.f
 refine Ev.bind (f := fun _ bt => if bt.2 = 0 then (if bt.1 < 0 then some (0, 18) else if bt.1 > most then some (0, 18) else some (bt.1, 0)) else some (0, bt.2)) (ref_parse l hl) ?_
 refine ev_if (fun h => ?_) (fun h => ?_)
 ·rw [if_pos h]
  refine ev_if (fun h1 => ?_) (fun h1 => ev_if (fun h2 => ?_) (fun h2 => ?_))
  ·rw [if_pos (.inl h1)]; exact Ev.now _
  ·rw [if_pos (.inr h2)]; exact Ev.now _
  ·rw [if_neg (by omega)]; exact Ev.now _
 ·rw [if_neg h]; exact Ev.now _
end Go.Proofs.Ytkgjbdbhpohkiaa.DigLaw
end
