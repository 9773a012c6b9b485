import Derived.Test.YtkgjbdbhpohkiaaMw29
import Derived.Test.YtkgjbdbhpohkiaaMw30
import Derived.KernelRfl
import Derived.Test.YtkgjbdbhpohkiaaMw14
import Derived.Test.YtkgjbdbhpohkiaaMw6
import Derived.Test.YtkgjbdbhpohkiaaMw4
import Derived.Test.YtkgjbdbhpohkiaaMw7
import Derived.Test.YtkgjbdbhpohkiaaMw3
import Derived.Test.YtkgjbdbhpohkiaaMw19
import Derived.Test.YtkgjbdbhpohkiaaMw18
import Derived.Test.YtkgjbdbhpohkiaaMw25
import Derived.Test.YtkgjbdbhpohkiaaMw20
import Derived.Test.YtkgjbdbhpohkiaaMw22
import Derived.Test.YtkgjbdbhpohkiaaMw10
-- from YtkgjbdbhpohkiaaSaidListingWrites
section
namespace Go.Proofs.Ytkgjbdbhpohkiaa.ListingWritesSaid
open Go.RowKit Go.Proofs.Ytkgjbdbhpohkiaa.PLi Go.Proofs.Ytkgjbdbhpohkiaa.Open Go.Proofs.YtkgjbdbhpohkiaaW.PrintWords Go.Proofs.YtkgjbdbhpohkiaaW.PrintLast
set_option linter.unusedVariables false
def good35 (x : S35) : Prop := ((Lit.int .i64 x.f0).wf = true) ∧ ((Lit.int .i64 x.f1).wf = true)
theorem open35 : Opens Try.prog k35 35 good35 := Opens.imp (opens_array (g := fun p => ⟨p.1, p.2⟩) Try.underlying35 (by kernel_rfl) (by kernel_rfl) (opensF_cons (off := 0) (off' := 1) (opens_int Try.underlying3) (by kernel_rfl) (by kernel_rfl) (opensF_one (off := 1) (opens_int Try.underlying3) (by kernel_rfl))) (fun _ => rfl)) (fun b h => h)
def good37 (x : S37) : Prop := ((Lit.int .i64 x.f0).wf = true) ∧ ((Lit.int .i64 x.f1).wf = true) ∧ ((Lit.int .i64 x.f2).wf = true) ∧ ((Lit.int .i64 x.f3).wf = true) ∧ ((Lit.int .i64 x.f4).wf = true) ∧ (x.f5.length * 8 ≤ 140737488351232 ∧ ∀ x_ ∈ x.f5, (Lit.int .i64 x_).wf = true) ∧ (good35 x.f6)
theorem open37 : Opens Try.prog k37 37 good37 := Opens.imp (opens_struct (g := fun p => ⟨p.1, p.2.1, p.2.2.1, p.2.2.2.1, p.2.2.2.2.1, p.2.2.2.2.2.1, p.2.2.2.2.2.2⟩) Try.underlying37 (by kernel_rfl) (opensF_cons (off := 0) (off' := 1) (opens_int Try.underlying3) (by kernel_rfl) (by kernel_rfl) (opensF_cons (off := 1) (off' := 2) (opens_int Try.underlying3) (by kernel_rfl) (by kernel_rfl) (opensF_cons (off := 2) (off' := 3) (opens_int Try.underlying3) (by kernel_rfl) (by kernel_rfl) (opensF_cons (off := 3) (off' := 4) (opens_int Try.underlying3) (by kernel_rfl) (by kernel_rfl) (opensF_cons (off := 4) (off' := 5) (opens_int Try.underlying2) (by kernel_rfl) (by kernel_rfl) (opensF_cons (off := 5) (off' := 6) (opens_slice (e' := 3) (B := 8) Try.underlying30 (opens_int Try.underlying3) (by kernel_rfl) (by kernel_rfl)) (by kernel_rfl) (by kernel_rfl) (opensF_one (off := 6) open35 (by kernel_rfl)))))))) (fun _ => rfl)) (fun b h => h)
def good33 (x : S33) : Prop := (x.f0.length * 8 ≤ 140737488351232 ∧ ∀ x_ ∈ x.f0, (Lit.int .i64 x_).wf = true) ∧ ((Lit.int .i64 x.f1).wf = true) ∧ (x.f2.length * 80 ≤ 140737488351232 ∧ ∀ x_ ∈ x.f2, good37 x_)
theorem open33 : Opens Try.prog k33 33 good33 := Opens.imp (opens_struct (g := fun p => ⟨p.1, p.2.1, p.2.2⟩) Try.underlying33 (by kernel_rfl) (opensF_cons (off := 0) (off' := 1) (opens_slice (e' := 3) (B := 8) Try.underlying30 (opens_int Try.underlying3) (by kernel_rfl) (by kernel_rfl)) (by kernel_rfl) (by kernel_rfl) (opensF_cons (off := 1) (off' := 2) (opens_int Try.underlying3) (by kernel_rfl) (by kernel_rfl) (opensF_one (off := 2) (opens_slice (e' := 37) (B := 80) Try.underlying31 open37 (by kernel_rfl) (by kernel_rfl)) (by kernel_rfl)))) (fun _ => rfl)) (fun b h => h)
def ListingWrites.Good : Prop := ∀ (a0 : List (S33)) (a1 : Int), (a0.length * 56 ≤ 140737488351232 ∧ ∀ x_ ∈ a0, good33 x_) → ((Lit.int .i64 a1).wf = true) → ∃ k, turntablelaw37_ListingWrites.f k a0 a1 = some true
end Go.Proofs.Ytkgjbdbhpohkiaa.ListingWritesSaid
end
-- from YtkgjbdbhpohkiaaLiDig
section
namespace Go.Proofs.Ytkgjbdbhpohkiaa.DigLaw
set_option linter.unusedSimpArgs false
open Go.RowKit Go.Proofs.YtkgjbdbhpohkiaaW.PrintWords Go.Proofs.YtkgjbdbhpohkiaaW.PrintLast Go.Proofs.YtkgjbdbhpohkiaaW.PrintMore Go.Proofs.Ytkgjbdbhpohkiaa.Str Go.Proofs.Ytkgjbdbhpohkiaa.Dig Go.Proofs.Ytkgjbdbhpohkiaa.PLi
def isD (c : UInt8) : Bool := decide (48 ≤ c.toNat) && decide (c.toNat ≤ 57)
def vn (n : Nat) (c : UInt8) : Nat := n * 10 + (c.toNat - 48)
def valD (v : Nat) (l : List UInt8) : Nat := l.foldl vn v
def fin (low : Bool) (V : Nat) : Int × Int := if 9223372036854775808 < V ∨ low = false ∧ V = 9223372036854775808 then (0, 18) else if low = true then (-(V : Int), 0) else ((V : Int), 0)
def finish (low : Bool) (rest : List UInt8) (v : Nat) : Int × Int := if rest.all isD = true then fin low (valD v rest) else (0, 3)
def badD (low : Bool) (t : List UInt8) : Bool := t.isEmpty || decide (1 < t.length) && t.head? == some 48 || low && t == [48]
def parseT (low : Bool) (t : List UInt8) : Int × Int := if badD low t = true then (0, 3) else finish low t 0
def parseL (l : List UInt8) : Int × Int := if l.head? = some 45 then parseT true l.tail else parseT false l
theorem isD_iff (c : UInt8) : isD c = true ↔ 48 ≤ c.toNat ∧ c.toNat ≤ 57 := by unfold isD; rw [Bool.and_eq_true, decide_eq_true_iff, decide_eq_true_iff]
theorem valD_cons (v : Nat) (c : UInt8) (l : List UInt8) : valD v (c :: l) = valD (vn v c) l := List.foldl_cons ..
theorem j5_ev (low : Bool) (n : Int) (v : Nat) (hv : v ≤ 9223372036854775808) (hn : n = -(v : Int)) :
    Ev (fun k => digits_Parse.j5 k low n (!low && n == -9223372036854775808)) (fin low v) := by
  refine Ev.step (f := fun _ => some (fin low v)) (fun k => ?_) (Ev.now _)
  unfold digits_Parse.j5 fin
  subst hn
  by_cases h : v = 9223372036854775808
  · subst h
    cases low <;> simp
  · have h1 : ¬ 9223372036854775808 < v := by omega
    have h2 : (-(v : Int) == -9223372036854775808) = false := by rw [beq_eq_false_iff_ne]; omega
    have h3 : wrap64 (v : Int) = (v : Int) := by unfold wrap64; omega
    cases low <;> simp [h, h1, h2, h3]
theorem parse_loop (low : Bool) : ∀ (rest pre : List UInt8) (v : Nat) (far : Bool) (n : Int), (pre ++ rest).length ≤ 4611686018427387904 → far = decide (9223372036854775808 < v) → (far = false → n = -(v : Int)) →
    Ev (fun k => digits_Parse.l0 k low (mk (pre ++ rest)) n far (pre.length : Int)) (finish low rest v) := by
  intro rest
  induction rest with
  | nil =>
    intro pre v far n hl hf hn
    have hsz : ¬ ((pre.length : Int) < ((mk (pre ++ [])).size : Int)) := by rw [mk_size]; simp
    refine Ev.step (f := fun k => if far = true then digits_Parse.j5 k low n true else if low = true then digits_Parse.j5 k low n false else digits_Parse.j5 k low n (n == -9223372036854775808)) (fun k => by simp only [digits_Parse.l0]; rw [if_neg hsz]) ?_
    have e : finish low [] v = fin low v := by simp [finish, valD]
    rw [e]
    cases far with
    | true =>
      have hv : 9223372036854775808 < v := by simpa using hf.symm
      refine ev_pos rfl (Ev.step (f := fun _ => some (0, 18)) (fun k => by simp [digits_Parse.j5]) ?_)
      have : fin low v = (0, 18) := by unfold fin; rw [if_pos (.inl hv)]
      rw [this]; exact Ev.now _
    | false =>
      have hv : v ≤ 9223372036854775808 := by have := of_decide_eq_false hf.symm; omega
      refine ev_neg (by simp) ?_
      have := j5_ev low n v hv (hn rfl)
      cases low with
      | true => exact ev_pos rfl (by simpa using this)
      | false => exact ev_neg (by simp) (by simpa using this)
  | cons c rest ih =>
    intro pre v far n hl hf hn
    have hsz : (pre.length : Int) < ((mk (pre ++ c :: rest)).size : Int) := by rw [mk_size]; simp; omega
    have hb := bt_pre pre rest c
    have hc := UInt8.toNat_lt c
    refine Ev.step (f := fun k => if (c.toNat : Int) < 48 then digits_Parse.j4 k low (mk (pre ++ c :: rest)) n far pre.length c.toNat true else digits_Parse.j4 k low (mk (pre ++ c :: rest)) n far pre.length c.toNat (decide ((c.toNat : Int) > 57))) (fun k => by simp only [digits_Parse.l0]; rw [if_pos hsz, if_pos (by omega), hb]) ?_
    by_cases hd : isD c = true
    · obtain ⟨h48, h57⟩ := (isD_iff c).1 hd
      have e57 : decide ((c.toNat : Int) > 57) = false := decide_eq_false (by omega)
      refine ev_neg (by omega) ?_
      rw [e57]
      have hw : wrap64 ((pre.length : Int) + 1) = ((pre ++ [c]).length : Int) := by
        rw [w64 (by omega) (by simp at hl; omega)]; simp
      have hm : ((c.toNat : Int) - 48) % 256 = ((c.toNat - 48 : Nat) : Int) := by omega
      have hfin : finish low (c :: rest) v = finish low rest (vn v c) := by simp [finish, hd, valD_cons]
      have hpre : pre ++ c :: rest = (pre ++ [c]) ++ rest := by simp
      rw [hfin, hpre]
      have hl' : ((pre ++ [c]) ++ rest).length ≤ 4611686018427387904 := by rw [← hpre]; exact hl
      cases far with
      | true =>
        have hv : 9223372036854775808 < v := by simpa using hf.symm
        refine Ev.step (f := fun k => digits_Parse.l0 k low (mk ((pre ++ [c]) ++ rest)) n true ((pre ++ [c]).length : Int)) (fun k => by simp only [digits_Parse.j4, Bool.false_eq_true, if_false, if_true]; rw [hw]) ?_
        exact ih (pre ++ [c]) (vn v c) true n hl' (by unfold vn; rw [decide_eq_true (by omega)]) (by simp)
      | false =>
        have hv : v ≤ 9223372036854775808 := by have := of_decide_eq_false hf.symm; omega
        obtain rfl := hn rfl
        have ht : (-9223372036854775808 + ((c.toNat - 48 : Nat) : Int)).tdiv 10 = -(((9223372036854775808 - (c.toNat - 48)) / 10 : Nat) : Int) := by
          have e1 : -9223372036854775808 + ((c.toNat - 48 : Nat) : Int) = -((9223372036854775808 - (c.toNat - 48) : Nat) : Int) := by omega
          rw [e1, Int.neg_tdiv]
          rfl
        by_cases hfar : 9223372036854775808 < vn v c
        · refine Ev.step (f := fun k => digits_Parse.l0 k low (mk ((pre ++ [c]) ++ rest)) (-(v : Int)) true ((pre ++ [c]).length : Int)) (fun k => by simp only [digits_Parse.j4, Bool.false_eq_true, if_false, if_true]; rw [hm, if_pos (by rw [ht]; unfold vn at hfar; omega), hw]) ?_
          exact ih (pre ++ [c]) (vn v c) true _ hl' (by rw [decide_eq_true hfar]) (by simp)
        · refine Ev.step (f := fun k => digits_Parse.l0 k low (mk ((pre ++ [c]) ++ rest)) (-((vn v c : Nat) : Int)) false ((pre ++ [c]).length : Int)) (fun k => ?_) (ih (pre ++ [c]) (vn v c) false _ hl' (by rw [decide_eq_false hfar]) (fun _ => rfl))
          simp only [digits_Parse.j4, Bool.false_eq_true, if_false, if_true]
          rw [hm, if_neg (by rw [ht]; unfold vn at hfar; omega), hw]
          congr 1
          unfold vn at hfar ⊢
          unfold wrap64
          omega
    · have hfin : finish low (c :: rest) v = (0, 3) := by simp [finish, hd]
      rw [hfin]
      by_cases h48 : (c.toNat : Int) < 48
      · exact ev_pos h48 (Ev.step (f := fun _ => some (0, 3)) (fun k => by simp [digits_Parse.j4]) (Ev.now _))
      · have h57 : decide ((c.toNat : Int) > 57) = true := by
          refine decide_eq_true ?_
          have : ¬ (48 ≤ c.toNat ∧ c.toNat ≤ 57) := fun h => hd ((isD_iff c).2 h)
          omega
        refine ev_neg h48 ?_
        rw [h57]
        exact Ev.step (f := fun _ => some (0, 3)) (fun k => by simp [digits_Parse.j4]) (Ev.now _)
theorem j2_ev (low : Bool) (t : List UInt8) (bad : Bool) (hl : t.length ≤ 4611686018427387904) (hb : bad = badD low t) : Ev (fun k => digits_Parse.j2 k low (mk t) bad) (parseT low t) := by
  unfold parseT
  rw [← hb]
  cases bad with
  | true => exact Ev.step (f := fun _ => some (0, 3)) (fun k => by simp [digits_Parse.j2]) (Ev.now _)
  | false => exact Ev.step (f := fun k => digits_Parse.l0 k low (mk ([] ++ t)) 0 false (([] : List UInt8).length : Int)) (fun k => by simp [digits_Parse.j2]) (parse_loop low t [] 0 false 0 hl (by simp) (by simp))
theorem j1_ev (low : Bool) (t : List UInt8) (hl : t.length ≤ 4611686018427387904) : Ev (fun k => digits_Parse.j1 k low (mk t)) (parseT low t) := by
  have key : ∀ bad, bad = badD low t → Ev (fun k => digits_Parse.j2 k low (mk t) bad) (parseT low t) := fun bad => j2_ev low t bad hl
  cases t with
  | nil => exact Ev.step (f := fun k => digits_Parse.j2 k low (mk []) true) (fun k => by simp [digits_Parse.j1, mk_size]) (key true (by simp [badD]))
  | cons c t =>
    have hb := bt_head c t
    refine Ev.step (f := fun k => if (((c :: t).length : Nat) : Int) > 1 then (if (c.toNat : Int) = 48 then digits_Parse.j2 k low (mk (c :: t)) true else if low = true then digits_Parse.j2 k low (mk (c :: t)) ((c :: t) == [48]) else digits_Parse.j2 k low (mk (c :: t)) false) else if low = true then digits_Parse.j2 k low (mk (c :: t)) ((c :: t) == [48]) else digits_Parse.j2 k low (mk (c :: t)) false) (fun k => by
      simp only [digits_Parse.j1, mk_size, mk_toList, hb]
      rw [if_neg (by simp; omega)]
      by_cases h1 : (((c :: t).length : Nat) : Int) > 1
      · rw [if_pos h1, if_pos h1, if_pos (by omega)]
      · rw [if_neg h1, if_neg h1]) ?_
    have hc48 : (c.toNat : Int) = 48 ↔ c = 48 := by
      constructor
      · intro h; apply UInt8.toNat_inj.1; simpa using (by omega : c.toNat = 48)
      · rintro rfl; rfl
    refine ev_if (fun h1 => ev_if (fun h2 => key _ ?_) fun h2 => ?_) fun h1 => ?_
    · have h3 := hc48.1 h2
      have h4 : 1 < (c :: t).length := by omega
      simp [badD, h3] at h4 ⊢
      exact .inl (by omega)
    · have h3 : ¬ c = 48 := fun h => h2 (hc48.2 h)
      cases low with
      | true => exact ev_pos rfl (key _ (by simp [badD, h3]))
      | false => exact ev_neg (by simp) (key _ (by simp [badD, h3]))
    · have h4 : t = [] := by
        cases t with
        | nil => rfl
        | cons => simp at h1; omega
      subst h4
      cases low with
      | true => exact ev_pos rfl (key _ (by simp [badD]))
      | false => exact ev_neg (by simp) (key _ (by simp [badD]))
theorem parse_ev (l : List UInt8) (hl : l.length ≤ 4611686018427387904) : Ev (fun k => digits_Parse.f k (mk l)) (parseL l) := by
  unfold digits_Parse.f
  have hj0 : ∀ low, (low = true → l.head? = some 45) → (low = false → l.head? ≠ some 45) → Ev (fun k => digits_Parse.j0 k (mk l) low) (parseL l) := by
    intro low h1 h2
    cases low with
    | true =>
      cases l with
      | nil => simp at h1
      | cons c t =>
        refine Ev.step (f := fun k => digits_Parse.j1 k true (mk t)) (fun k => ?_) ?_
        · simp only [digits_Parse.j0, mk_from, if_true]
          rw [if_pos (by rw [mk_size]; simp; omega)]
          rfl
        · have e : parseL (c :: t) = parseT true t := by unfold parseL; rw [if_pos (h1 rfl)]; rfl
          rw [e]
          exact j1_ev true t (by simp at hl; omega)
    | false =>
      refine Ev.step (f := fun k => digits_Parse.j1 k false (mk l)) (fun k => by simp [digits_Parse.j0]) ?_
      have e : parseL l = parseT false l := by unfold parseL; rw [if_neg (h2 rfl)]
      rw [e]
      exact j1_ev false l hl
  cases l with
  | nil => exact ev_neg (by rw [mk_size]; simp) (hj0 false (by simp) (by simp))
  | cons c t =>
    refine ev_pos (by rw [mk_size]; simp) (ev_pos (by rw [mk_size]; simp) ?_)
    rw [bt_head]
    have hc45 : ((c.toNat : Int) == 45) = true ↔ c = 45 := by
      rw [beq_iff_eq]
      constructor
      · intro h; apply UInt8.toNat_inj.1; simpa using (by omega : c.toNat = 45)
      · rintro rfl; rfl
    refine hj0 _ (fun h => by simp [hc45.1 h]) (fun h h' => ?_)
    have : c = 45 := by simpa using h'
    rw [hc45.2 this] at h
    cases h
theorem dig_nat (d : Nat) (h : d < 10) : (UInt8.ofNat (48 + d)).toNat = 48 + d := by
  rw [UInt8.toNat_ofNat']; omega
theorem print_some (a : Int) (h0 : -9223372036854775808 ≤ a) (h1 : a ≤ 9223372036854775807) : digits_Print.f a = some (mk (digs a)) := by
  unfold digits_Print.f; rw [if_pos h0, if_pos h1]
theorem small_some (a : Int) (h0 : -9223372036854775808 ≤ a) (h1 : a ≤ 9223372036854775807) : digits_Small.f a = some (mk (digs a)) := by
  unfold digits_Small.f; rw [print_some a h0 h1]; rfl
theorem index_ev (l : List UInt8) (hl : l.length ≤ 4611686018427387904) (most : Int) : Ev (fun k => digits_Index.f k (mk l) most) (if (parseL l).2 = 0 then (if (parseL l).1 < 0 ∨ (parseL l).1 > most then (0, 18) else ((parseL l).1, 0)) else (0, (parseL l).2)) := by
  unfold digits_Index.f
  refine Ev.bind (f := fun _ bt => if bt.2 = 0 then (if bt.1 < 0 then some (0, 18) else if bt.1 > most then some (0, 18) else some (bt.1, 0)) else some (0, bt.2)) (parse_ev l hl) ?_
  refine ev_if (fun h => ?_) (fun h => ?_)
  · rw [if_pos h]
    refine ev_if (fun h1 => ?_) (fun h1 => ev_if (fun h2 => ?_) (fun h2 => ?_))
    · rw [if_pos (.inl h1)]; exact Ev.now _
    · rw [if_pos (.inr h2)]; exact Ev.now _
    · rw [if_neg (by omega)]; exact Ev.now _
  · rw [if_neg h]; exact Ev.now _
theorem i64_bounds {a : Int} (h : (Lit.int .i64 a).wf = true) : -9223372036854775808 ≤ a ∧ a ≤ 9223372036854775807 := by
  simpa [Lit.wf, IntKind.min, IntKind.max, IntKind.signed, IntKind.bits] using h
end Go.Proofs.Ytkgjbdbhpohkiaa.DigLaw
end
-- from YtkgjbdbhpohkiaaLiRead
section
namespace Go.Proofs.Ytkgjbdbhpohkiaa.LiRead
open Go.RowKit Go.Proofs.YtkgjbdbhpohkiaaW.PrintWords Go.Proofs.YtkgjbdbhpohkiaaW.PrintLast Go.Proofs.YtkgjbdbhpohkiaaW.PrintMore Go.Proofs.Ytkgjbdbhpohkiaa.Str Go.Proofs.Ytkgjbdbhpohkiaa.Dig Go.Proofs.Ytkgjbdbhpohkiaa.DigLaw Go.Proofs.Ytkgjbdbhpohkiaa.PLi
set_option linter.unusedSimpArgs false
set_option linter.unusedVariables false
theorem ev_bind'' {α β : Type} {g : Nat → Option α} {f : Nat → α → Option β} {a : α} {r : β} (h : Ev g a) (k : Ev (fun n => f n a) r) : Ev (fun n => (g n).bind (f n)) r := Ev.bind h k
structure Toks (tl : List Tok) : Prop where
  len : tl.length ≤ 100000
  at_ : ∀ t ∈ tl, 0 ≤ t.f1
  sz : ∀ t ∈ tl, t.f0.size ≤ 100000
structure GS (tl : List Tok) (d s1 s3 s4 : Int) : Prop where
  lo : 0 ≤ s1
  hi : s1 ≤ tl.length + d
  ok : s3 = 0 → s1 ≤ tl.length
  e : 0 ≤ s4
theorem GS.up {tl : List Tok} {d d' s1 s3 s4 : Int} (h : GS tl d s1 s3 s4) (hd : d ≤ d') : GS tl d' s1 s3 s4 := ⟨h.lo, by have := h.hi; omega, h.ok, h.e⟩
theorem GS.zero {tl : List Tok} {d s1 s3 s4 : Int} (h : GS tl d s1 s3 s4) (h0 : s3 = 0) : GS tl 0 s1 s3 s4 := ⟨h.lo, by have := h.ok h0; omega, h.ok, h.e⟩
theorem tok_at (tl : List Tok) (s1 : Int) (h0 : 0 ≤ s1) (h1 : s1 < tl.length) : rd_T84 tl s1 ∈ tl := by
  obtain ⟨n, rfl⟩ := Int.eq_ofNat_of_zero_le h0
  have hn : n < tl.length := by omega
  unfold rd_T84
  rw [Int.toNat_natCast, List.getD_eq_getElem?_getD, List.getElem?_eq_getElem hn]
  exact List.getElem_mem hn
def pkB (tl : List Tok) (s1 s3 : Int) : ByteArray := if s3 = 0 ∧ s1 < (tl.length : Int) then (rd_T84 tl s1).f0 else (⟨#[]⟩ : ByteArray)
theorem peek_some (tl : List Tok) (s1 s2 s3 s4 : Int) (h0 : 0 ≤ s1) : listing_reader_peek.f tl s1 s2 s3 s4 = some (pkB tl s1 s3, s1, s2, s3, s4) := by
  unfold listing_reader_peek.f pkB
  by_cases h3 : s3 = 0
  · rw [if_pos h3]
    by_cases h1 : s1 < (tl.length : Int)
    · rw [if_neg (by omega), if_pos h0, if_pos h1, if_pos ⟨h3, h1⟩]
    · rw [if_pos (by omega), if_neg (fun h => h1 h.2)]
  · rw [if_neg h3, if_neg (fun h => h3 h.1)]
theorem pk_pos {tl : List Tok} {s1 s3 : Int} (h : pkB tl s1 s3 ≠ (⟨#[]⟩ : ByteArray)) : s3 = 0 ∧ s1 < (tl.length : Int) := by
  unfold pkB at h
  by_cases hc : s3 = 0 ∧ s1 < (tl.length : Int)
  · exact hc
  · rw [if_neg hc] at h
    exact absurd rfl h
theorem pk_sz {tl : List Tok} (hT : Toks tl) {s1 s3 : Int} (h0 : 0 ≤ s1) : (pkB tl s1 s3).size ≤ 100000 := by
  unfold pkB
  by_cases hc : s3 = 0 ∧ s1 < (tl.length : Int)
  · rw [if_pos hc]
    exact hT.sz _ (tok_at tl s1 h0 hc.2)
  · rw [if_neg hc]
    decide
def flA (tl : List Tok) (s1 s2 s3 s4 : Int) : Int := if s3 = 0 then (if s1 < (tl.length : Int) then (rd_T84 tl s1).f1 else s2) else s4
def flC (s3 c : Int) : Int := if s3 = 0 then c else s3
theorem fail_some (tl : List Tok) (s1 s2 s3 s4 c : Int) (h0 : 0 ≤ s1) : listing_reader_fail.f tl s1 s2 s3 s4 c = some (s1, s2, flC s3 c, flA tl s1 s2 s3 s4) := by
  unfold listing_reader_fail.f flA flC
  by_cases h3 : s3 = 0
  · rw [if_pos h3, if_pos h3, if_pos h3]
    by_cases h1 : s1 < (tl.length : Int)
    · rw [if_pos h1, if_pos h0, if_pos h1]
    · rw [if_neg h1, if_neg h1]
  · rw [if_neg h3, if_neg h3, if_neg h3]
theorem flA_pos {tl : List Tok} (hT : Toks tl) {s1 s2 s3 s4 : Int} (h0 : 0 ≤ s1) (h2 : 0 ≤ s2) (h4 : 0 ≤ s4) : 0 ≤ flA tl s1 s2 s3 s4 := by
  unfold flA
  by_cases h3 : s3 = 0
  · rw [if_pos h3]
    by_cases h1 : s1 < (tl.length : Int)
    · rw [if_pos h1]
      exact hT.at_ _ (tok_at tl s1 h0 h1)
    · rw [if_neg h1]
      exact h2
  · rw [if_neg h3]
    exact h4
theorem flC_ne {s3 c : Int} (hc : c ≠ 0) : flC s3 c ≠ 0 := by
  unfold flC
  by_cases h3 : s3 = 0
  · rw [if_pos h3]; exact hc
  · rw [if_neg h3]; exact h3
theorem GS.fail {tl : List Tok} (hT : Toks tl) {d s1 s2 s3 s4 c : Int} (h : GS tl d s1 s3 s4) (h2 : 0 ≤ s2) (hc : c ≠ 0) : GS tl d s1 (flC s3 c) (flA tl s1 s2 s3 s4) :=
  ⟨h.lo, h.hi, fun e => absurd e (flC_ne hc), flA_pos hT h.lo h2 h.e⟩
theorem GS.next {tl : List Tok} {d s1 s3 s4 : Int} (h : GS tl d s1 s3 s4) (hn : s3 = 0 → s1 < (tl.length : Int)) : GS tl (d + 1) (s1 + 1) s3 s4 :=
  ⟨by have := h.lo; omega, by have := h.hi; omega, fun e => by have := hn e; omega, h.e⟩
theorem GS.w {tl : List Tok} (hT : Toks tl) {d s1 s3 s4 : Int} (h : GS tl d s1 s3 s4) (hd : d ≤ 1000) : wrap64 (s1 + 1) = s1 + 1 := w64 (by have := h.lo; omega) (by have := h.hi; have := hT.len; omega)
section
variable {tl : List Tok} (hT : Toks tl) {d s1 s2 s3 s4 : Int} (g : GS tl d s1 s3 s4) (h2 : 0 ≤ s2) (hd : d ≤ 900)
include hT g h2 hd
theorem index_any (sign most c : Int) (hc : c ≠ 0) (hm : 0 ≤ most) : ∃ v r1 r3 r4, Ev (fun k => listing_reader_index.f k tl s1 s2 s3 s4 sign most c) (v, r1, s2, r3, r4) ∧ GS tl (d + 1) r1 r3 r4 ∧ s1 ≤ r1 ∧ (r3 = 0 → s3 = 0 ∧ s1 < r1 ∧ 0 ≤ v ∧ v ≤ most) := by
  have hsz := pk_sz hT (s1 := s1) (s3 := s3) g.lo
  have hpk := peek_some tl s1 s2 s3 s4 g.lo
  have hpp := pk_pos (tl := tl) (s1 := s1) (s3 := s3)
  generalize pkB tl s1 s3 = b at *
  have key : ∀ x : Bool, (x = false → 2 ≤ b.size) → ∃ v r1 r3 r4, (Ev (fun k => listing_reader_index.j0 k most c b x tl s1 s2 s3 s4) (v, r1, s2, r3, r4)) ∧ GS tl (d + 1) r1 r3 r4 ∧ s1 ≤ r1 ∧ (r3 = 0 → s3 = 0 ∧ s1 < r1 ∧ 0 ≤ v ∧ v ≤ most) := by
    intro x hx
    have hfl := fail_some tl s1 s2 s3 s4 c g.lo
    cases x with
    | true =>
      have hg := (g.fail hT h2 hc).up (show d ≤ d + 1 by omega)
      exact ⟨0, s1, flC s3 c, flA tl s1 s2 s3 s4, Ev.step (fun k => by simp only [listing_reader_index.j0]; rfl) (ev_pos (c := (true = true)) rfl (ev_some hfl (Ev.now _))), hg, Int.le_refl _, fun e => absurd e (flC_ne hc)⟩
    | false =>
      have h2b := hx rfl
      have hp := hpp (fun e => by rw [e] at h2b; exact absurd h2b (by decide))
      have hw := g.w hT (by omega)
      have eb : b.extract 1 b.size = mk (b.data.toList.drop 1) := by
        have := mk_from b.data.toList 1
        rw [← mk_data b] at this
        exact this
      have hl : (b.data.toList.drop 1).length ≤ 4611686018427387904 := by rw [List.length_drop, ← size_data]; omega
      have hi := index_ev (b.data.toList.drop 1) hl most
      rw [← eb] at hi
      generalize parseL (b.data.toList.drop 1) = q at hi
      by_cases hq : q.2 = 0 ∧ ¬ (q.1 < 0 ∨ q.1 > most)
      · rw [if_pos hq.1, if_neg hq.2] at hi
        exact ⟨q.1, s1 + 1, s3, s4, by
          refine Ev.step (fun k => by simp only [listing_reader_index.j0]; rfl) ?_
          refine ev_neg (by simp) (ev_pos (by omega) (ev_bind'' hi (ev_pos (c := ((0 : Int) = 0)) rfl ?_)))
          simp only [hw]
          exact Ev.now _, g.next (fun _ => hp.2), by omega, fun e => ⟨e, by omega, by omega, by omega⟩⟩
      · have hbad : ∃ v m, m ≠ 0 ∧ (if q.2 = 0 then (if q.1 < 0 ∨ q.1 > most then ((0 : Int), (18 : Int)) else (q.1, 0)) else (0, q.2)) = (v, m) := by
          by_cases hq2 : q.2 = 0
          · by_cases hq3 : q.1 < 0 ∨ q.1 > most
            · exact ⟨0, 18, by decide, by rw [if_pos hq2, if_pos hq3]⟩
            · exact absurd ⟨hq2, hq3⟩ hq
          · exact ⟨0, q.2, hq2, by rw [if_neg hq2]⟩
        obtain ⟨v, m, hm0, hvm⟩ := hbad
        rw [hvm] at hi
        have hg := (g.fail hT h2 hc).next (fun e => absurd e (flC_ne hc))
        exact ⟨v, s1 + 1, flC s3 c, flA tl s1 s2 s3 s4, by
          refine Ev.step (fun k => by simp only [listing_reader_index.j0]; rfl) ?_
          refine ev_neg (by simp) (ev_pos (by omega) (ev_bind'' hi (ev_neg hm0 (ev_some hfl ?_))))
          simp only [hw]
          exact Ev.now _, hg, by omega, fun e => absurd e (flC_ne hc)⟩
  by_cases h1 : (b.size : Int) < 2
  · obtain ⟨v, r1, r3, r4, k1, k2, k3, k4⟩ := key true (fun e => by cases e)
    exact ⟨v, r1, r3, r4, by unfold listing_reader_index.f; exact ev_some hpk (ev_pos h1 k1), k2, k3, k4⟩
  · have h1' : 2 ≤ b.size := by omega
    obtain ⟨v, r1, r3, r4, k1, k2, k3, k4⟩ := key (bt b 0 != sign) (fun _ => h1')
    exact ⟨v, r1, r3, r4, by unfold listing_reader_index.f; exact ev_some hpk (ev_neg h1 (ev_pos (c := 0 < (b.size : Int)) (by omega) k1)), k2, k3, k4⟩
theorem slot_any : ∃ v r1 r3 r4, Ev (fun k => listing_reader_slot.f k tl s1 s2 s3 s4) (v, r1, s2, r3, r4) ∧ GS tl (d + 1) r1 r3 r4 ∧ s1 ≤ r1 ∧ (r3 = 0 → s3 = 0 ∧ s1 < r1) := by
  have hpk := peek_some tl s1 s2 s3 s4 g.lo
  by_cases he : (pkB tl s1 s3).toList = ([95] : List UInt8)
  · have hp := pk_pos (tl := tl) (s1 := s1) (s3 := s3) (fun e => by rw [e, toList_eq] at he; exact absurd he (by decide))
    have hw := g.w hT (by omega)
    exact ⟨-1, s1 + 1, s3, s4, by unfold listing_reader_slot.f; exact ev_some hpk (ev_pos he (by simp only [hw]; exact Ev.now _)), g.next (fun _ => hp.2), by omega, fun e => ⟨e, by omega⟩⟩
  · obtain ⟨v, r1, r3, r4, k1, k2, k3, k4⟩ := index_any hT g h2 hd 115 4095 8 (by decide) (by decide)
    exact ⟨v, r1, r3, r4, by unfold listing_reader_slot.f; exact ev_some hpk (ev_neg he (ev_bind'' k1 (Ev.now _))), k2, k3, fun e => ⟨(k4 e).1, (k4 e).2.1⟩⟩
end
def wordT (n : Nat) : ByteArray := (listing_Word.f (n : Int)).getD (⟨#[]⟩ : ByteArray)
theorem word_some : ∀ n : Fin 31, listing_Word.f ((n : Nat) : Int) = some (wordT n) := by decide +kernel
section
variable {tl : List Tok} (hT : Toks tl) {d s1 s2 s3 s4 : Int} (g : GS tl d s1 s3 s4) (h2 : 0 ≤ s2) (hd : d ≤ 700) (hd0 : 0 ≤ d)
include hT g h2 hd hd0
end
theorem parts_fin : ∀ n : Fin 31, listing_parts.f 60 ((n : Nat) : Int) = some ((listing_parts.f 60 ((n : Nat) : Int)).getD (⟨#[]⟩ : ByteArray)) := by decide +kernel
def partsT (n : Nat) : ByteArray := (listing_parts.f 60 (n : Int)).getD (⟨#[]⟩ : ByteArray)
theorem parts_ev (n : Nat) (hn : n ≤ 30) : Ev (fun k => listing_parts.f k (n : Int)) (partsT n) := Ev.of (fun k => listing_parts.mono (n : Int) k) (k := 60) (parts_fin ⟨n, by omega⟩)
theorem parts_ok : ∀ n : Fin 31, (asciiB (partsT n) = true ∧ (partsT n).size ≤ 8) ∧ (partsT n).data.toList.all (fun c => [100, 97, 98, 102, 110, 108, 111, 116].contains c) = true := by decide +kernel
theorem all_in {l s : List UInt8} (h : l.all (fun c => s.contains c) = true) : ∀ c ∈ l, c ∈ s := fun c hc => by
  have := List.all_eq_true.mp h c hc
  simpa using this
section
variable {tl : List Tok} (hT : Toks tl) {d s1 s2 s3 s4 : Int} (g : GS tl d s1 s3 s4) (h2 : 0 ≤ s2) (hd : d ≤ 500) (hd0 : 0 ≤ d)
include hT g h2 hd hd0
end
section
variable {tl : List Tok} (hT : Toks tl) {d s1 s2 s3 s4 : Int} (g : GS tl d s1 s3 s4) (h2 : 0 ≤ s2) (hd : d ≤ 20) (hd0 : 0 ≤ d)
include hT g h2 hd hd0
end
end Go.Proofs.Ytkgjbdbhpohkiaa.LiRead
end
-- from YtkgjbdbhpohkiaaLiCode
section
namespace Go.Proofs.Ytkgjbdbhpohkiaa.CodeLaw
open Go.RowKit Go.Proofs.Ytkgjbdbhpohkiaa.PLi Go.Proofs.YtkgjbdbhpohkiaaW.PrintWords Go.Proofs.YtkgjbdbhpohkiaaW.PrintLast Go.Proofs.YtkgjbdbhpohkiaaW.PrintMore Go.Proofs.Ytkgjbdbhpohkiaa.Str
set_option linter.unusedSimpArgs false
set_option linter.unusedVariables false
def wtI (l : List S37) : Nat := (l.map fun x => 1 + x.f5.length).sum
def wtB (f : S33) : Nat := f.f0.length + wtI f.f2
def wtL (l : List S33) : Nat := l.length + (l.map wtB).sum
section
variable (l : List S33) (hl : l.length ≤ 140737488351232) (hp : ∀ f ∈ l, f.f0.length ≤ 140737488351232) (hb : ∀ f ∈ l, f.f2.length ≤ 140737488351232) (ha : ∀ f ∈ l, ∀ x ∈ f.f2, x.f5.length ≤ 140737488351232)
include hl hp hb ha
omit hp in
theorem weight_l1 (i : Nat) (hi : i < l.length) (next : ∀ acc : Nat, acc ≤ 281474976710655 → ∃ r : Nat, Ev (fun k => turntableref33_Weight.l0 k l 300 (acc : Int) (wrap64 ((i : Int) + 1))) (r : Int) ∧ (r ≤ 300 → acc + ((l.drop (i + 1)).map wtB).sum ≤ 300)) :
    ∀ (d j acc : Nat), l[i].f2.length - j = d → acc ≤ 281474976710655 → ∃ r : Nat, Ev (fun k => turntableref33_Weight.l1 k l 300 (acc : Int) (i : Int) (j : Int)) (r : Int) ∧ (r ≤ 300 → acc + wtI (l[i].f2.drop j) + ((l.drop (i + 1)).map wtB).sum ≤ 300) := by
  intro d
  have hbi := hb _ (List.getElem_mem hi)
  induction d with
  | zero =>
    intro j acc hd ha'
    obtain ⟨r, hr, hr2⟩ := next acc ha'
    refine ⟨r, Ev.step (fun k => by simp only [turntableref33_Weight.l1]; rfl) (ev_pos (by omega) (ev_pos (by omega) (ev_neg (by rw [rd47_at l i hi]; omega) hr))), fun h => ?_⟩
    rw [List.drop_eq_nil_of_le (by omega)]
    have := hr2 h
    simpa [wtI] using this
  | succ d ih =>
    intro j acc hd ha'
    have hj : j < l[i].f2.length := by omega
    by_cases hac : acc ≤ 300
    · have hx := ha _ (List.getElem_mem hi) _ (List.getElem_mem hj)
      obtain ⟨r, hr, hr2⟩ := ih (j + 1) (acc + (1 + l[i].f2[j].f5.length)) (by omega) (by omega)
      refine ⟨r, Ev.step (fun k => by simp only [turntableref33_Weight.l1]; rfl) (ev_pos (by omega) (ev_pos (by omega) (ev_pos (by rw [rd47_at l i hi]; omega) (ev_pos (by omega) (ev_pos (by omega) ?_))))), fun h => ?_⟩
      · rw [rd47_at l i hi, rd51_at _ j hj]
        have e1 : wrap64 ((j : Int) + 1) = ((j + 1 : Nat) : Int) := by rw [w64 (by omega) (by omega)]; omega
        have e2 : wrap64 ((wrap64 ((acc : Int) + 1)) + ((l[i].f2[j].f5.length : Nat) : Int)) = ((acc + (1 + l[i].f2[j].f5.length) : Nat) : Int) := by rw [w64 (x := (acc : Int) + 1) (by omega) (by omega), w64 (by omega) (by omega)]; omega
        rw [e1, e2]
        exact hr
      · have := hr2 h
        rw [List.drop_eq_getElem_cons hj]
        show acc + wtI (l[i].f2[j] :: l[i].f2.drop (j + 1)) + _ ≤ 300
        have e : wtI (l[i].f2[j] :: l[i].f2.drop (j + 1)) = (1 + l[i].f2[j].f5.length) + wtI (l[i].f2.drop (j + 1)) := rfl
        rw [e]
        omega
    · obtain ⟨r, hr, hr2⟩ := next acc ha'
      have e : wrap64 ((i : Int) + 1) = ((i + 1 : Nat) : Int) := by rw [w64 (by omega) (by omega)]; omega
      exact ⟨r, Ev.step (fun k => by simp only [turntableref33_Weight.l1]; rfl) (ev_pos (by omega) (ev_pos (by omega) (ev_pos (by rw [rd47_at l i hi]; omega) (ev_neg (by omega) hr)))), fun h => absurd (hr2 h) (by omega)⟩
theorem weight_l0 : ∀ (d i acc : Nat), l.length - i = d → acc ≤ 281474976710655 → ∃ r : Nat, Ev (fun k => turntableref33_Weight.l0 k l 300 (acc : Int) (i : Int)) (r : Int) ∧ (r ≤ 300 → acc + ((l.drop i).map wtB).sum ≤ 300) := by
  intro d
  induction d with
  | zero =>
    intro i acc hd ha'
    exact ⟨acc, Ev.step (fun k => by simp only [turntableref33_Weight.l0]; rfl) (ev_neg (by omega) (Ev.step (fun k => by simp only [turntableref33_Weight.j1]; rfl) (ev_neg (by simp) (Ev.now _)))), fun h => by rw [List.drop_eq_nil_of_le (by omega)]; simpa using h⟩
  | succ d ih =>
    intro i acc hd ha'
    have hi : i < l.length := by omega
    have hpi := hp _ (List.getElem_mem hi)
    by_cases hac : acc ≤ 300
    · have e : wrap64 ((i : Int) + 1) = ((i + 1 : Nat) : Int) := by rw [w64 (by omega) (by omega)]; omega
      obtain ⟨r, hr, hr2⟩ := weight_l1 l hl hb ha i hi (fun acc h => by rw [e]; exact ih (i + 1) acc (by omega) h) _ 0 (acc + l[i].f0.length) rfl (by omega)
      refine ⟨r, Ev.step (fun k => by simp only [turntableref33_Weight.l0]; rfl) (ev_pos (by omega) (Ev.step (fun k => by simp only [turntableref33_Weight.j1]; rfl) (ev_pos (by simp; omega) (ev_pos (by omega) (ev_pos (by omega) ?_))))), fun h => ?_⟩
      · rw [rd47_at l i hi]
        have e2 : wrap64 ((acc : Int) + ((l[i].f0.length : Nat) : Int)) = ((acc + l[i].f0.length : Nat) : Int) := by rw [w64 (by omega) (by omega)]; omega
        rw [e2]
        exact hr
      · have := hr2 h
        rw [List.drop_eq_getElem_cons hi, List.map_cons, List.sum_cons]
        rw [List.drop_zero] at this
        show acc + ((l[i].f0.length + wtI l[i].f2) + _) ≤ 300
        omega
    · exact ⟨acc, Ev.step (fun k => by simp only [turntableref33_Weight.l0]; rfl) (ev_pos (by omega) (Ev.step (fun k => by simp only [turntableref33_Weight.j1]; rfl) (ev_neg (by simp; omega) (Ev.now _)))), fun h => absurd h hac⟩
theorem light_any : ∃ b, Ev (fun k => turntablelaw37_light.f k l) b ∧ (b = true → wtL l ≤ 300) := by
  obtain ⟨r, hr, hr2⟩ := weight_l0 l hl hp hb ha _ 0 l.length rfl (by omega)
  refine ⟨decide ((r : Int) ≤ 300), Ev.bind (f := fun _ t => some (decide (t ≤ 300))) (show Ev (fun k => turntableref33_Weight.f k l 300) (r : Int) from hr) (Ev.now _), fun h => ?_⟩
  have := hr2 (by have := of_decide_eq_true h; omega)
  rw [List.drop_zero] at this
  exact this
end
theorem ev_eq {α : Type} {g : Nat → Option α} {r r' : α} (h : r' = r) (k : Ev g r') : Ev g r := h ▸ k
theorem bool_ext {x y : Bool} (h : x = true ↔ y = true) : x = y := by cases x <;> cases y <;> simp_all
theorem refB_1 (d a b nn : Int) (l : List Int) (t0 t1 size n funcs : Int) : refB 1 d a b nn l t0 t1 size n funcs = instB 1 d a b nn l t0 t1 size n funcs := by
  unfold refB instB
  rw [show piecesS 1 = (⟨#[100, 119]⟩ : ByteArray) by decide, show piecesL 1 = [0, 4] by decide]
  simp only [hasC, toList_eq]
  cases h : l.any (offB size)
  all_goals
    apply bool_ext
    simp [okP, toldP, told0, withinB, emptyB, slotB, placeB, allB, h]
    try simp only [← List.length_eq_zero_iff]
    try omega
theorem refB_2 (d a b nn : Int) (l : List Int) (t0 t1 size n funcs : Int) : refB 2 d a b nn l t0 t1 size n funcs = instB 2 d a b nn l t0 t1 size n funcs := by
  unfold refB instB
  rw [show piecesS 2 = (⟨#[100, 97, 98]⟩ : ByteArray) by decide, show piecesL 2 = [0, 1, 2] by decide]
  simp only [hasC, toList_eq]
  cases h : l.any (offB size)
  all_goals
    apply bool_ext
    simp [okP, toldP, told0, withinB, emptyB, slotB, placeB, allB, h]
    try simp only [← List.length_eq_zero_iff]
    try omega
theorem refB_3 (d a b nn : Int) (l : List Int) (t0 t1 size n funcs : Int) : refB 3 d a b nn l t0 t1 size n funcs = instB 3 d a b nn l t0 t1 size n funcs := by
  unfold refB instB
  rw [show piecesS 3 = (⟨#[100, 97, 98]⟩ : ByteArray) by decide, show piecesL 3 = [0, 1, 2] by decide]
  simp only [hasC, toList_eq]
  cases h : l.any (offB size)
  all_goals
    apply bool_ext
    simp [okP, toldP, told0, withinB, emptyB, slotB, placeB, allB, h]
    try simp only [← List.length_eq_zero_iff]
    try omega
theorem refB_4 (d a b nn : Int) (l : List Int) (t0 t1 size n funcs : Int) : refB 4 d a b nn l t0 t1 size n funcs = instB 4 d a b nn l t0 t1 size n funcs := by
  unfold refB instB
  rw [show piecesS 4 = (⟨#[100, 97, 98]⟩ : ByteArray) by decide, show piecesL 4 = [0, 1, 2] by decide]
  simp only [hasC, toList_eq]
  cases h : l.any (offB size)
  all_goals
    apply bool_ext
    simp [okP, toldP, told0, withinB, emptyB, slotB, placeB, allB, h]
    try simp only [← List.length_eq_zero_iff]
    try omega
theorem refB_5 (d a b nn : Int) (l : List Int) (t0 t1 size n funcs : Int) : refB 5 d a b nn l t0 t1 size n funcs = instB 5 d a b nn l t0 t1 size n funcs := by
  unfold refB instB
  rw [show piecesS 5 = (⟨#[100, 97, 98]⟩ : ByteArray) by decide, show piecesL 5 = [0, 1, 2] by decide]
  simp only [hasC, toList_eq]
  cases h : l.any (offB size)
  all_goals
    apply bool_ext
    simp [okP, toldP, told0, withinB, emptyB, slotB, placeB, allB, h]
    try simp only [← List.length_eq_zero_iff]
    try omega
theorem refB_6 (d a b nn : Int) (l : List Int) (t0 t1 size n funcs : Int) : refB 6 d a b nn l t0 t1 size n funcs = instB 6 d a b nn l t0 t1 size n funcs := by
  unfold refB instB
  rw [show piecesS 6 = (⟨#[100, 97, 98]⟩ : ByteArray) by decide, show piecesL 6 = [0, 1, 2] by decide]
  simp only [hasC, toList_eq]
  cases h : l.any (offB size)
  all_goals
    apply bool_ext
    simp [okP, toldP, told0, withinB, emptyB, slotB, placeB, allB, h]
    try simp only [← List.length_eq_zero_iff]
    try omega
theorem refB_7 (d a b nn : Int) (l : List Int) (t0 t1 size n funcs : Int) : refB 7 d a b nn l t0 t1 size n funcs = instB 7 d a b nn l t0 t1 size n funcs := by
  unfold refB instB
  rw [show piecesS 7 = (⟨#[100, 97, 98]⟩ : ByteArray) by decide, show piecesL 7 = [0, 1, 2] by decide]
  simp only [hasC, toList_eq]
  cases h : l.any (offB size)
  all_goals
    apply bool_ext
    simp [okP, toldP, told0, withinB, emptyB, slotB, placeB, allB, h]
    try simp only [← List.length_eq_zero_iff]
    try omega
theorem refB_9 (d a b nn : Int) (l : List Int) (t0 t1 size n funcs : Int) : refB 9 d a b nn l t0 t1 size n funcs = instB 9 d a b nn l t0 t1 size n funcs := by
  unfold refB instB
  rw [show piecesS 9 = (⟨#[100, 97, 98]⟩ : ByteArray) by decide, show piecesL 9 = [0, 1, 2] by decide]
  simp only [hasC, toList_eq]
  cases h : l.any (offB size)
  all_goals
    apply bool_ext
    simp [okP, toldP, told0, withinB, emptyB, slotB, placeB, allB, h]
    try simp only [← List.length_eq_zero_iff]
    try omega
theorem refB_8 (d a b nn : Int) (l : List Int) (t0 t1 size n funcs : Int) : refB 8 d a b nn l t0 t1 size n funcs = instB 8 d a b nn l t0 t1 size n funcs := by
  unfold refB instB
  rw [show piecesS 8 = (⟨#[100]⟩ : ByteArray) by decide, show piecesL 8 = [0] by decide]
  simp only [hasC, toList_eq]
  cases h : l.any (offB size)
  all_goals
    apply bool_ext
    simp [okP, toldP, told0, withinB, emptyB, slotB, placeB, allB, h]
    try simp only [← List.length_eq_zero_iff]
    try omega
theorem refB_10 (d a b nn : Int) (l : List Int) (t0 t1 size n funcs : Int) : refB 10 d a b nn l t0 t1 size n funcs = instB 10 d a b nn l t0 t1 size n funcs := by
  unfold refB instB
  rw [show piecesS 10 = (⟨#[100, 115]⟩ : ByteArray) by decide, show piecesL 10 = [0, 3] by decide]
  simp only [hasC, toList_eq]
  cases h : l.any (offB size)
  all_goals
    apply bool_ext
    simp [okP, toldP, told0, withinB, emptyB, slotB, placeB, allB, h]
    try simp only [← List.length_eq_zero_iff]
    try omega
theorem refB_11 (d a b nn : Int) (l : List Int) (t0 t1 size n funcs : Int) : refB 11 d a b nn l t0 t1 size n funcs = instB 11 d a b nn l t0 t1 size n funcs := by
  unfold refB instB
  rw [show piecesS 11 = (⟨#[100, 97, 115]⟩ : ByteArray) by decide, show piecesL 11 = [0, 1, 3] by decide]
  simp only [hasC, toList_eq]
  cases h : l.any (offB size)
  all_goals
    apply bool_ext
    simp [okP, toldP, told0, withinB, emptyB, slotB, placeB, allB, h]
    try simp only [← List.length_eq_zero_iff]
    try omega
theorem refB_12 (d a b nn : Int) (l : List Int) (t0 t1 size n funcs : Int) : refB 12 d a b nn l t0 t1 size n funcs = instB 12 d a b nn l t0 t1 size n funcs := by
  unfold refB instB
  rw [show piecesS 12 = (⟨#[100, 97, 115]⟩ : ByteArray) by decide, show piecesL 12 = [0, 1, 3] by decide]
  simp only [hasC, toList_eq]
  cases h : l.any (offB size)
  all_goals
    apply bool_ext
    simp [okP, toldP, told0, withinB, emptyB, slotB, placeB, allB, h]
    try simp only [← List.length_eq_zero_iff]
    try omega
theorem refB_15 (d a b nn : Int) (l : List Int) (t0 t1 size n funcs : Int) : refB 15 d a b nn l t0 t1 size n funcs = instB 15 d a b nn l t0 t1 size n funcs := by
  unfold refB instB
  rw [show piecesS 15 = (⟨#[100, 97, 115]⟩ : ByteArray) by decide, show piecesL 15 = [0, 1, 3] by decide]
  simp only [hasC, toList_eq]
  cases h : l.any (offB size)
  all_goals
    apply bool_ext
    simp [okP, toldP, told0, withinB, emptyB, slotB, placeB, allB, h]
    try simp only [← List.length_eq_zero_iff]
    try omega
theorem refB_13 (d a b nn : Int) (l : List Int) (t0 t1 size n funcs : Int) : refB 13 d a b nn l t0 t1 size n funcs = instB 13 d a b nn l t0 t1 size n funcs := by
  unfold refB instB
  rw [show piecesS 13 = (⟨#[97, 98, 115]⟩ : ByteArray) by decide, show piecesL 13 = [1, 2, 3] by decide]
  simp only [hasC, toList_eq]
  cases h : l.any (offB size)
  all_goals
    apply bool_ext
    simp [okP, toldP, told0, withinB, emptyB, slotB, placeB, allB, h]
    try simp only [← List.length_eq_zero_iff]
    try omega
theorem refB_14 (d a b nn : Int) (l : List Int) (t0 t1 size n funcs : Int) : refB 14 d a b nn l t0 t1 size n funcs = instB 14 d a b nn l t0 t1 size n funcs := by
  unfold refB instB
  rw [show piecesS 14 = (⟨#[97, 98, 115]⟩ : ByteArray) by decide, show piecesL 14 = [1, 2, 3] by decide]
  simp only [hasC, toList_eq]
  cases h : l.any (offB size)
  all_goals
    apply bool_ext
    simp [okP, toldP, told0, withinB, emptyB, slotB, placeB, allB, h]
    try simp only [← List.length_eq_zero_iff]
    try omega
theorem refB_16 (d a b nn : Int) (l : List Int) (t0 t1 size n funcs : Int) : refB 16 d a b nn l t0 t1 size n funcs = instB 16 d a b nn l t0 t1 size n funcs := by
  unfold refB instB
  rw [show piecesS 16 = (⟨#[100, 97]⟩ : ByteArray) by decide, show piecesL 16 = [0, 1] by decide]
  simp only [hasC, toList_eq]
  cases h : l.any (offB size)
  all_goals
    apply bool_ext
    simp [okP, toldP, told0, withinB, emptyB, slotB, placeB, allB, h]
    try simp only [← List.length_eq_zero_iff]
    try omega
theorem refB_17 (d a b nn : Int) (l : List Int) (t0 t1 size n funcs : Int) : refB 17 d a b nn l t0 t1 size n funcs = instB 17 d a b nn l t0 t1 size n funcs := by
  unfold refB instB
  rw [show piecesS 17 = (⟨#[100, 97]⟩ : ByteArray) by decide, show piecesL 17 = [0, 1] by decide]
  simp only [hasC, toList_eq]
  cases h : l.any (offB size)
  all_goals
    apply bool_ext
    simp [okP, toldP, told0, withinB, emptyB, slotB, placeB, allB, h]
    try simp only [← List.length_eq_zero_iff]
    try omega
theorem refB_30 (d a b nn : Int) (l : List Int) (t0 t1 size n funcs : Int) : refB 30 d a b nn l t0 t1 size n funcs = instB 30 d a b nn l t0 t1 size n funcs := by
  unfold refB instB
  rw [show piecesS 30 = (⟨#[100, 97]⟩ : ByteArray) by decide, show piecesL 30 = [0, 1] by decide]
  simp only [hasC, toList_eq]
  cases h : l.any (offB size)
  all_goals
    apply bool_ext
    simp [okP, toldP, told0, withinB, emptyB, slotB, placeB, allB, h]
    try simp only [← List.length_eq_zero_iff]
    try omega
theorem refB_18 (d a b nn : Int) (l : List Int) (t0 t1 size n funcs : Int) : refB 18 d a b nn l t0 t1 size n funcs = instB 18 d a b nn l t0 t1 size n funcs := by
  unfold refB instB
  rw [show piecesS 18 = (⟨#[97, 98]⟩ : ByteArray) by decide, show piecesL 18 = [1, 2] by decide]
  simp only [hasC, toList_eq]
  cases h : l.any (offB size)
  all_goals
    apply bool_ext
    simp [okP, toldP, told0, withinB, emptyB, slotB, placeB, allB, h]
    try simp only [← List.length_eq_zero_iff]
    try omega
theorem refB_19 (d a b nn : Int) (l : List Int) (t0 t1 size n funcs : Int) : refB 19 d a b nn l t0 t1 size n funcs = instB 19 d a b nn l t0 t1 size n funcs := by
  unfold refB instB
  rw [show piecesS 19 = (⟨#[97, 98]⟩ : ByteArray) by decide, show piecesL 19 = [1, 2] by decide]
  simp only [hasC, toList_eq]
  cases h : l.any (offB size)
  all_goals
    apply bool_ext
    simp [okP, toldP, told0, withinB, emptyB, slotB, placeB, allB, h]
    try simp only [← List.length_eq_zero_iff]
    try omega
theorem refB_21 (d a b nn : Int) (l : List Int) (t0 t1 size n funcs : Int) : refB 21 d a b nn l t0 t1 size n funcs = instB 21 d a b nn l t0 t1 size n funcs := by
  unfold refB instB
  rw [show piecesS 21 = (⟨#[100, 97, 115, 108]⟩ : ByteArray) by decide, show piecesL 21 = [0, 1, 3, 5] by decide]
  simp only [hasC, toList_eq]
  cases h : l.any (offB size)
  all_goals
    apply bool_ext
    simp [okP, toldP, told0, withinB, emptyB, slotB, placeB, allB, h]
    try simp only [← List.length_eq_zero_iff]
    try omega
theorem refB_22 (d a b nn : Int) (l : List Int) (t0 t1 size n funcs : Int) : refB 22 d a b nn l t0 t1 size n funcs = instB 22 d a b nn l t0 t1 size n funcs := by
  unfold refB instB
  rw [show piecesS 22 = (⟨#[97]⟩ : ByteArray) by decide, show piecesL 22 = [1] by decide]
  simp only [hasC, toList_eq]
  cases h : l.any (offB size)
  all_goals
    apply bool_ext
    simp [okP, toldP, told0, withinB, emptyB, slotB, placeB, allB, h]
    try simp only [← List.length_eq_zero_iff]
    try omega
theorem refB_25 (d a b nn : Int) (l : List Int) (t0 t1 size n funcs : Int) : refB 25 d a b nn l t0 t1 size n funcs = instB 25 d a b nn l t0 t1 size n funcs := by
  unfold refB instB
  rw [show piecesS 25 = (⟨#[97]⟩ : ByteArray) by decide, show piecesL 25 = [1] by decide]
  simp only [hasC, toList_eq]
  cases h : l.any (offB size)
  all_goals
    apply bool_ext
    simp [okP, toldP, told0, withinB, emptyB, slotB, placeB, allB, h]
    try simp only [← List.length_eq_zero_iff]
    try omega
theorem refB_28 (d a b nn : Int) (l : List Int) (t0 t1 size n funcs : Int) : refB 28 d a b nn l t0 t1 size n funcs = instB 28 d a b nn l t0 t1 size n funcs := by
  unfold refB instB
  rw [show piecesS 28 = (⟨#[97]⟩ : ByteArray) by decide, show piecesL 28 = [1] by decide]
  simp only [hasC, toList_eq]
  cases h : l.any (offB size)
  all_goals
    apply bool_ext
    simp [okP, toldP, told0, withinB, emptyB, slotB, placeB, allB, h]
    try simp only [← List.length_eq_zero_iff]
    try omega
theorem refB_23 (d a b nn : Int) (l : List Int) (t0 t1 size n funcs : Int) : refB 23 d a b nn l t0 t1 size n funcs = instB 23 d a b nn l t0 t1 size n funcs := by
  unfold refB instB
  rw [show piecesS 23 = (⟨#[115]⟩ : ByteArray) by decide, show piecesL 23 = [3] by decide]
  simp only [hasC, toList_eq]
  cases h : l.any (offB size)
  all_goals
    apply bool_ext
    simp [okP, toldP, told0, withinB, emptyB, slotB, placeB, allB, h]
    try simp only [← List.length_eq_zero_iff]
    try omega
theorem refB_29 (d a b nn : Int) (l : List Int) (t0 t1 size n funcs : Int) : refB 29 d a b nn l t0 t1 size n funcs = instB 29 d a b nn l t0 t1 size n funcs := by
  unfold refB instB
  rw [show piecesS 29 = (⟨#[115]⟩ : ByteArray) by decide, show piecesL 29 = [3] by decide]
  simp only [hasC, toList_eq]
  cases h : l.any (offB size)
  all_goals
    apply bool_ext
    simp [okP, toldP, told0, withinB, emptyB, slotB, placeB, allB, h]
    try simp only [← List.length_eq_zero_iff]
    try omega
theorem refB_26 (d a b nn : Int) (l : List Int) (t0 t1 size n funcs : Int) : refB 26 d a b nn l t0 t1 size n funcs = instB 26 d a b nn l t0 t1 size n funcs := by
  unfold refB instB
  rw [show piecesS 26 = (⟨#[111]⟩ : ByteArray) by decide, show piecesL 26 = [6] by decide]
  simp only [hasC, toList_eq]
  cases h : l.any (offB size)
  all_goals
    apply bool_ext
    simp [okP, toldP, told0, withinB, emptyB, slotB, placeB, allB, h]
    try simp only [← List.length_eq_zero_iff]
    try omega
theorem refB_27 (d a b nn : Int) (l : List Int) (t0 t1 size n funcs : Int) : refB 27 d a b nn l t0 t1 size n funcs = instB 27 d a b nn l t0 t1 size n funcs := by
  unfold refB instB
  rw [show piecesS 27 = (⟨#[97, 116]⟩ : ByteArray) by decide, show piecesL 27 = [1, 7] by decide]
  simp only [hasC, toList_eq]
  cases h : l.any (offB size)
  all_goals
    apply bool_ext
    simp [okP, toldP, told0, withinB, emptyB, slotB, placeB, allB, h]
    try simp only [← List.length_eq_zero_iff]
    try omega
theorem refB_none (op d a b nn : Int) (l : List Int) (t0 t1 size n funcs : Int) (h : ¬ (op = 1 ∨ op = 2 ∨ op = 3 ∨ op = 4 ∨ op = 5 ∨ op = 6 ∨ op = 7 ∨ op = 8 ∨ op = 9 ∨ op = 10 ∨ op = 11 ∨ op = 12 ∨ op = 13 ∨ op = 14 ∨ op = 15 ∨ op = 16 ∨ op = 17 ∨ op = 18 ∨ op = 19 ∨ op = 21 ∨ op = 22 ∨ op = 23 ∨ op = 25 ∨ op = 26 ∨ op = 27 ∨ op = 28 ∨ op = 29 ∨ op = 30)) : refB op d a b nn l t0 t1 size n funcs = instB op d a b nn l t0 t1 size n funcs := by
  simp only [not_or] at h
  unfold refB instB
  rw [show piecesS op = (⟨#[]⟩ : ByteArray) by unfold piecesS; simp [h], show piecesL op = [] by unfold piecesL; simp [h]]
  simp only [toList_eq]
  simp
theorem refB_eq (op d a b nn : Int) (l : List Int) (t0 t1 size n funcs : Int) : refB op d a b nn l t0 t1 size n funcs = instB op d a b nn l t0 t1 size n funcs := by
  by_cases h : op = 1 ∨ op = 2 ∨ op = 3 ∨ op = 4 ∨ op = 5 ∨ op = 6 ∨ op = 7 ∨ op = 8 ∨ op = 9 ∨ op = 10 ∨ op = 11 ∨ op = 12 ∨ op = 13 ∨ op = 14 ∨ op = 15 ∨ op = 16 ∨ op = 17 ∨ op = 18 ∨ op = 19 ∨ op = 21 ∨ op = 22 ∨ op = 23 ∨ op = 25 ∨ op = 26 ∨ op = 27 ∨ op = 28 ∨ op = 29 ∨ op = 30
  · rcases h with rfl | rfl | rfl | rfl | rfl | rfl | rfl | rfl | rfl | rfl | rfl | rfl | rfl | rfl | rfl | rfl | rfl | rfl | rfl | rfl | rfl | rfl | rfl | rfl | rfl | rfl | rfl | rfl
    · exact refB_1 d a b nn l t0 t1 size n funcs
    · exact refB_2 d a b nn l t0 t1 size n funcs
    · exact refB_3 d a b nn l t0 t1 size n funcs
    · exact refB_4 d a b nn l t0 t1 size n funcs
    · exact refB_5 d a b nn l t0 t1 size n funcs
    · exact refB_6 d a b nn l t0 t1 size n funcs
    · exact refB_7 d a b nn l t0 t1 size n funcs
    · exact refB_8 d a b nn l t0 t1 size n funcs
    · exact refB_9 d a b nn l t0 t1 size n funcs
    · exact refB_10 d a b nn l t0 t1 size n funcs
    · exact refB_11 d a b nn l t0 t1 size n funcs
    · exact refB_12 d a b nn l t0 t1 size n funcs
    · exact refB_13 d a b nn l t0 t1 size n funcs
    · exact refB_14 d a b nn l t0 t1 size n funcs
    · exact refB_15 d a b nn l t0 t1 size n funcs
    · exact refB_16 d a b nn l t0 t1 size n funcs
    · exact refB_17 d a b nn l t0 t1 size n funcs
    · exact refB_18 d a b nn l t0 t1 size n funcs
    · exact refB_19 d a b nn l t0 t1 size n funcs
    · exact refB_21 d a b nn l t0 t1 size n funcs
    · exact refB_22 d a b nn l t0 t1 size n funcs
    · exact refB_23 d a b nn l t0 t1 size n funcs
    · exact refB_25 d a b nn l t0 t1 size n funcs
    · exact refB_26 d a b nn l t0 t1 size n funcs
    · exact refB_27 d a b nn l t0 t1 size n funcs
    · exact refB_28 d a b nn l t0 t1 size n funcs
    · exact refB_29 d a b nn l t0 t1 size n funcs
    · exact refB_30 d a b nn l t0 t1 size n funcs
  · exact refB_none op d a b nn l t0 t1 size n funcs h
def instOf (size n funcs : Int) (x : S37) : Bool := instB x.f0 x.f1 x.f2 x.f3 x.f4 x.f5 x.f6.f0 x.f6.f1 size n funcs
def lastOp (l : List S37) : Int := (rd_T37 l (wrap64 ((l.length : Int) - 1))).f0
def bodyErr (f : S33) (funcs : Int) : Int :=
  if f.f1 < 1 ∨ f.f1 > 4096 ∨ (f.f0.length : Int) > 8 ∨ (f.f2.length : Int) > 65536 then 6
  else if f.f2.length = 0 ∨ lastOp f.f2 < 26 ∨ lastOp f.f2 > 29 then 15
  else if f.f0.any (offB f.f1) = true then 8
  else if f.f2.all (instOf f.f1 (f.f2.length : Int) funcs) = true then 0 else 2
structure Fit (f : S33) : Prop where
  p : f.f0.length ≤ 9223372036854775806
  c : f.f2.length ≤ 9223372036854775806
  a : ∀ x ∈ f.f2, x.f5.length ≤ 9223372036854775806
theorem one_l0 (f : S33) (hf : Fit f) (funcs : Int) : ∀ (d i : Nat), f.f2.length - i = d → Ev (fun k => turntableref33_one.l0 k funcs (f.f2.length : Int) (i : Int) f.f0 f.f1 f.f2) (if (f.f2.drop i).all (instOf f.f1 (f.f2.length : Int) funcs) = true then 0 else 2) := by
  have hc := hf.c
  intro d
  induction d with
  | zero =>
    intro i hd
    refine Ev.step (fun k => by simp only [turntableref33_one.l0]; rfl) (ev_neg (by omega) ?_)
    rw [List.drop_eq_nil_of_le (by omega)]
    exact Ev.now _
  | succ d ih =>
    intro i hd
    have hi : i < f.f2.length := by omega
    refine Ev.step (fun k => by simp only [turntableref33_one.l0]; rfl) (ev_pos (by omega) (ev_pos (by omega) (ev_pos (by omega) ?_)))
    rw [rd51_at _ i hi, List.drop_eq_getElem_cons hi, List.all_cons]
    refine ev_some (show turntableref33_inst.f _ _ _ _ _ _ _ _ _ _ _ = some _ from if_pos (hf.a _ (List.getElem_mem hi))) ?_
    rw [refB_eq]
    show Ev _ (if (instOf f.f1 (f.f2.length : Int) funcs f.f2[i] && _) = true then 0 else 2)
    unfold instOf
    cases instB f.f2[i].f0 f.f2[i].f1 f.f2[i].f2 f.f2[i].f3 f.f2[i].f4 f.f2[i].f5 f.f2[i].f6.f0 f.f2[i].f6.f1 f.f1 (f.f2.length : Int) funcs
    · exact ev_neg (by simp) (ev_eq (by simp) (Ev.now _))
    · have hw : wrap64 ((i : Int) + 1) = ((i + 1 : Nat) : Int) := by rw [w64 (by omega) (by omega)]; omega
      rw [hw]
      exact ev_pos rfl (ev_eq (by simp [instOf]) (ih (i + 1) (by omega)))
theorem one_any (f : S33) (hf : Fit f) (funcs : Int) : Ev (fun k => turntableref33_one.f k f.f0 f.f1 f.f2 funcs) (bodyErr f funcs) := by
  have hc := hf.c
  have hp := hf.p
  have hj1 : ∀ x : Bool, ¬ (f.f1 < 1 ∨ f.f1 > 4096 ∨ (f.f0.length : Int) > 8 ∨ (f.f2.length : Int) > 65536) → (x = true ↔ (f.f2.length = 0 ∨ lastOp f.f2 < 26 ∨ lastOp f.f2 > 29)) → Ev (fun k => turntableref33_one.j1 k funcs (f.f2.length : Int) x f.f0 f.f1 f.f2) (bodyErr f funcs) := by
    intro x h6 hx
    refine Ev.step (fun k => by simp only [turntableref33_one.j1]; rfl) ?_
    unfold bodyErr
    rw [if_neg h6]
    cases x
    · rw [if_neg (fun h => by have := hx.2 h; cases this)]
      refine ev_neg (by simp) (ev_bind' (all_any f.f0 f.f1 hp) ?_)
      have hall : allB f.f0 f.f1 = !(f.f0.any (offB f.f1)) := by unfold allB; rw [decide_eq_true (by omega)]; simp
      rw [hall]
      cases f.f0.any (offB f.f1)
      · have := one_l0 f hf funcs _ 0 rfl
        exact ev_pos rfl (ev_eq (by simp) this)
      · exact ev_neg (by simp) (ev_eq (by simp) (Ev.now _))
    · rw [if_pos (hx.1 rfl)]
      exact ev_pos rfl (Ev.now _)
  have hj0 : ∀ x : Bool, (x = true ↔ (f.f1 < 1 ∨ f.f1 > 4096 ∨ (f.f0.length : Int) > 8 ∨ (f.f2.length : Int) > 65536)) → Ev (fun k => turntableref33_one.j0 k funcs (f.f2.length : Int) x f.f0 f.f1 f.f2) (bodyErr f funcs) := by
    intro x hx
    refine Ev.step (fun k => by simp only [turntableref33_one.j0]; rfl) ?_
    cases x
    · have h6 : ¬ (f.f1 < 1 ∨ f.f1 > 4096 ∨ (f.f0.length : Int) > 8 ∨ (f.f2.length : Int) > 65536) := fun h => by have := hx.2 h; cases this
      refine ev_neg (by simp) ?_
      by_cases h0 : (f.f2.length : Int) = 0
      · exact ev_pos h0 (hj1 true h6 ⟨fun _ => .inl (by omega), fun _ => rfl⟩)
      · have hw : wrap64 ((f.f2.length : Int) - 1) = (f.f2.length : Int) - 1 := w64 (by omega) (by omega)
        refine ev_neg h0 (ev_pos (by omega) (ev_pos (by omega) ?_))
        by_cases h1 : lastOp f.f2 < 26
        · exact ev_pos h1 (hj1 true h6 ⟨fun _ => .inr (.inl h1), fun _ => rfl⟩)
        · refine ev_neg h1 (hj1 _ h6 ⟨fun h => .inr (.inr (of_decide_eq_true h)), fun h => decide_eq_true ?_⟩)
          rcases h with h | h | h
          · omega
          · exact absurd h h1
          · exact h
    · unfold bodyErr
      rw [if_pos (hx.1 rfl)]
      exact ev_pos rfl (Ev.now _)
  unfold turntableref33_one.f
  by_cases h1 : f.f1 < 1
  · exact ev_pos h1 (hj0 true ⟨fun _ => .inl h1, fun _ => rfl⟩)
  · by_cases h2 : f.f1 > 4096
    · exact ev_neg h1 (ev_pos h2 (hj0 true ⟨fun _ => .inr (.inl h2), fun _ => rfl⟩))
    · by_cases h3 : (f.f0.length : Int) > 8
      · exact ev_neg h1 (ev_neg h2 (ev_pos h3 (hj0 true ⟨fun _ => .inr (.inr (.inl h3)), fun _ => rfl⟩)))
      · refine ev_neg h1 (ev_neg h2 (ev_neg h3 (hj0 _ ⟨fun h => .inr (.inr (.inr (of_decide_eq_true h))), fun h => decide_eq_true ?_⟩)))
        rcases h with h | h | h | h
        · exact absurd h h1
        · exact absurd h h2
        · exact absurd h h3
        · exact h
def chkL (funcs : Int) : List S33 → Nat → Int × Int
  | [], _ => (0, 0)
  | f :: r, i => if bodyErr f funcs = 0 then chkL funcs r (i + 1) else (bodyErr f funcs, i)
def chk (l : List S33) : Int × Int := if (l.length : Int) > 32 then (6, (l.length : Int)) else chkL (l.length : Int) l 0
theorem ref_chk_l0 (l : List S33) (hl : l.length ≤ 32) (hf : ∀ f ∈ l, Fit f) : ∀ (d i : Nat), l.length - i = d → Ev (fun k => turntableref33_Check.l0 k l (i : Int)) (chkL (l.length : Int) (l.drop i) i) := by
  intro d
  induction d with
  | zero =>
    intro i hd
    refine Ev.step (fun k => by simp only [turntableref33_Check.l0]; rfl) (ev_neg (by omega) ?_)
    rw [List.drop_eq_nil_of_le (by omega)]
    exact Ev.now _
  | succ d ih =>
    intro i hd
    have hi : i < l.length := by omega
    refine Ev.step (fun k => by simp only [turntableref33_Check.l0]; rfl) (ev_pos (by omega) (ev_pos (by omega) ?_))
    rw [rd47_at _ i hi, List.drop_eq_getElem_cons hi]
    refine ev_bind' (one_any l[i] (hf _ (List.getElem_mem hi)) (l.length : Int)) ?_
    have hw : wrap64 ((i : Int) + 1) = ((i + 1 : Nat) : Int) := by rw [w64 (by omega) (by omega)]; omega
    rw [hw]
    by_cases h : bodyErr l[i] (l.length : Int) = 0
    · exact ev_pos h (ev_eq (by simp [chkL, h]) (ih (i + 1) (by omega)))
    · exact ev_neg h (ev_eq (by simp [chkL, h]) (Ev.now _))
theorem ref_chk (l : List S33) (hf : ∀ f ∈ l, Fit f) : Ev (fun k => turntableref33_Check.f k l) (chk l) := by
  unfold turntableref33_Check.f chk
  by_cases h : (l.length : Int) > 32
  · rw [if_pos h]; exact ev_pos h (Ev.now _)
  · rw [if_neg h]; exact ev_neg h (ref_chk_l0 l (by omega) hf _ 0 rfl)
def setP (x y : S37) (p : Int) : S37 :=
  if p = 0 then { y with f1 := x.f1 } else if p = 1 then { y with f2 := x.f2 } else if p = 2 then { y with f3 := x.f3 }
  else if p = 3 then { y with f4 := x.f4 } else if p = 4 then { y with f4 := x.f4 } else if p = 5 then { y with f5 := x.f5 }
  else if p = 6 then { y with f6 := ⟨x.f6.f0, y.f6.f1⟩ } else if p = 7 then { y with f6 := x.f6 } else y
def blankP (op : Int) : S37 := ⟨op, -1, -1, -1, 0, [], ⟨0, 0⟩⟩
theorem told_set (x : S37) : ∀ (ps : List Int) (y : PLi.Told) (z : S37), z.f1 = y.d → z.f2 = y.a → z.f3 = y.b → z.f4 = y.n → (z.f5 = if y.l = true then x.f5 else []) → z.f6.f0 = y.t0 → z.f6.f1 = y.t1 →
    (ps.foldl (setP x) z).f0 = z.f0 ∧ (ps.foldl (setP x) z).f1 = (ps.foldl (toldP x.f1 x.f2 x.f3 x.f4 x.f6.f0 x.f6.f1) y).d ∧ (ps.foldl (setP x) z).f2 = (ps.foldl (toldP x.f1 x.f2 x.f3 x.f4 x.f6.f0 x.f6.f1) y).a ∧
    (ps.foldl (setP x) z).f3 = (ps.foldl (toldP x.f1 x.f2 x.f3 x.f4 x.f6.f0 x.f6.f1) y).b ∧ (ps.foldl (setP x) z).f4 = (ps.foldl (toldP x.f1 x.f2 x.f3 x.f4 x.f6.f0 x.f6.f1) y).n ∧
    ((ps.foldl (setP x) z).f5 = if (ps.foldl (toldP x.f1 x.f2 x.f3 x.f4 x.f6.f0 x.f6.f1) y).l = true then x.f5 else []) ∧
    (ps.foldl (setP x) z).f6.f0 = (ps.foldl (toldP x.f1 x.f2 x.f3 x.f4 x.f6.f0 x.f6.f1) y).t0 ∧ (ps.foldl (setP x) z).f6.f1 = (ps.foldl (toldP x.f1 x.f2 x.f3 x.f4 x.f6.f0 x.f6.f1) y).t1 := by
  intro ps
  induction ps with
  | nil => intro y z h1 h2 h3 h4 h5 h6 h7; exact ⟨rfl, h1, h2, h3, h4, h5, h6, h7⟩
  | cons p ps ih =>
    intro y z h1 h2 h3 h4 h5 h6 h7
    have e0 : (setP x z p).f0 = z.f0 := by unfold setP; repeat' (first | rfl | split)
    rw [List.foldl_cons, List.foldl_cons, ← e0]
    apply ih
    all_goals
      unfold setP toldP
      by_cases k0 : p = 0
      · simp [k0, *]
      by_cases k1 : p = 1
      · simp [k1, *]
      by_cases k2 : p = 2
      · simp [k2, *]
      by_cases k3 : p = 3
      · simp [k3, *]
      by_cases k4 : p = 4
      · simp [k4, *]
      by_cases k5 : p = 5
      · simp [k5, *]
      by_cases k6 : p = 6
      · simp [k6, *]
      by_cases k7 : p = 7
      · simp [k7, *]
      simp [k0, k1, k2, k3, k4, k5, k6, k7, *]
def okW (x : S37) (p : Int) : Prop :=
  if p = 0 then -1 ≤ x.f1 ∧ x.f1 ≤ 4095 else if p = 1 then (x.f0 = 21 → 0 ≤ x.f2 ∧ x.f2 ≤ 31) ∧ (x.f0 ≠ 21 → -1 ≤ x.f2 ∧ x.f2 ≤ 4095) else if p = 2 then -1 ≤ x.f3 ∧ x.f3 ≤ 4095
  else if p = 3 then -9223372036854775808 ≤ x.f4 ∧ x.f4 ≤ 9223372036854775807 else if p = 4 then -9223372036854775808 ≤ x.f4 ∧ x.f4 ≤ 9223372036854775807 else if p = 5 then x.f5.length ≤ 8 ∧ ∀ v ∈ x.f5, 0 ≤ v ∧ v ≤ 4095
  else if p = 6 then 0 ≤ x.f6.f0 ∧ x.f6.f0 ≤ 65535 else if p = 7 then (0 ≤ x.f6.f0 ∧ x.f6.f0 ≤ 65535) ∧ 0 ≤ x.f6.f1 ∧ x.f6.f1 ≤ 65535 else True
structure GoodI (x : S37) : Prop where
  ne : piecesL x.f0 ≠ []
  r : ∀ p ∈ piecesL x.f0, okW x p
  e : (piecesL x.f0).foldl (setP x) (blankP x.f0) = x
structure GoodB (f : S33) : Prop where
  p : f.f0.length ≤ 8 ∧ ∀ v ∈ f.f0, 0 ≤ v ∧ v ≤ 4095
  s : 1 ≤ f.f1 ∧ f.f1 ≤ 4096
  n : f.f2.length ≤ 65536
  i : ∀ x ∈ f.f2, GoodI x
theorem good_inst {x : S37} {size n funcs : Int} (hsz : size ≤ 4096) (hn : n ≤ 65536) (hfu : funcs ≤ 32) (hw : -9223372036854775808 ≤ x.f4 ∧ x.f4 ≤ 9223372036854775807) (h : instOf size n funcs x = true) : GoodI x := by
  unfold instOf instB at h
  simp only [Bool.and_eq_true, beq_iff_eq] at h
  obtain ⟨⟨hp, hall⟩, ⟨⟨⟨⟨⟨⟨c1, c2⟩, c3⟩, c4⟩, c5⟩, c6⟩, c7⟩⟩ := h
  have hne : piecesL x.f0 ≠ [] := by intro e; rw [e] at hp; simp at hp
  refine ⟨hne, fun p hp2 => ?_, ?_⟩
  · have hk := List.all_eq_true.mp hall p hp2
    unfold okP at hk
    unfold okW
    by_cases h0 : p = 0
    · subst h0; simp only [if_true] at hk ⊢
      unfold withinB at hk
      simp only [Bool.or_eq_true, Bool.and_eq_true, decide_eq_true_eq, beq_iff_eq] at hk
      omega
    rw [if_neg h0] at hk ⊢
    by_cases h1 : p = 1
    · subst h1; simp only [if_true] at hk ⊢
      by_cases ho : x.f0 = 21
      · rw [if_pos ho] at hk
        simp only [Bool.and_eq_true, decide_eq_true_eq] at hk
        exact ⟨fun _ => by omega, fun h => absurd ho h⟩
      · rw [if_neg ho] at hk
        unfold withinB at hk
        simp only [Bool.or_eq_true, Bool.and_eq_true, decide_eq_true_eq, beq_iff_eq] at hk
        exact ⟨fun h => absurd h ho, fun _ => by omega⟩
    rw [if_neg h1] at hk ⊢
    by_cases h2 : p = 2
    · subst h2; simp only [if_true] at hk ⊢
      unfold withinB at hk
      simp only [Bool.or_eq_true, Bool.and_eq_true, decide_eq_true_eq, beq_iff_eq] at hk
      omega
    rw [if_neg h2] at hk ⊢
    by_cases h3 : p = 3
    · subst h3; simp only [if_true] at hk ⊢
      simp only [Bool.and_eq_true, decide_eq_true_eq] at hk
      omega
    rw [if_neg h3] at hk ⊢
    by_cases h4 : p = 4
    · subst h4; simp only [if_true]; exact hw
    rw [if_neg h4] at hk ⊢
    by_cases h5 : p = 5
    · subst h5; simp only [if_true] at hk ⊢
      simp only [Bool.and_eq_true, decide_eq_true_eq, Bool.not_eq_true'] at hk
      refine ⟨hk.1, fun v hv => ?_⟩
      have := List.any_eq_false.mp hk.2 v hv
      unfold offB at this
      simp only [Bool.or_eq_true, decide_eq_true_eq] at this
      omega
    rw [if_neg h5] at hk ⊢
    by_cases h6 : p = 6
    · subst h6; simp only [if_true] at hk ⊢
      simp only [Bool.and_eq_true, decide_eq_true_eq] at hk
      omega
    rw [if_neg h6] at hk ⊢
    by_cases h7 : p = 7
    · subst h7; simp only [if_true] at hk ⊢
      simp only [Bool.and_eq_true, decide_eq_true_eq] at hk
      omega
    rw [if_neg h7]; trivial
  · obtain ⟨g0, g1, g2, g3, g4, g5, g6, g7⟩ := told_set x (piecesL x.f0) told0 (blankP x.f0) rfl rfl rfl rfl rfl rfl rfl
    rw [← c1] at g1
    rw [← c2] at g2
    rw [← c3] at g3
    rw [← c4] at g4
    rw [← c5] at g6
    rw [← c6] at g7
    have g8 : ((piecesL x.f0).foldl (setP x) (blankP x.f0)).f5 = x.f5 := by
      rw [g5]
      by_cases hl : ((piecesL x.f0).foldl (toldP x.f1 x.f2 x.f3 x.f4 x.f6.f0 x.f6.f1) told0).l = true
      · rw [if_pos hl]
      · rw [if_neg hl] at c7 ⊢
        exact (List.eq_nil_of_length_eq_zero (by simpa using c7)).symm
    generalize (piecesL x.f0).foldl (setP x) (blankP x.f0) = z at *
    obtain ⟨z0, z1, z2, z3, z4, z5, ⟨z6, z7⟩⟩ := z
    obtain ⟨x0, x1, x2, x3, x4, x5, ⟨x6, x7⟩⟩ := x
    simp only at g0 g1 g2 g3 g4 g6 g7 g8
    subst g1; subst g2; subst g3; subst g4; subst g6; subst g7; subst g8
    rw [show z0 = x0 from g0]
theorem good_body {f : S33} {funcs : Int} (hfu : funcs ≤ 32) (hw : ∀ x ∈ f.f2, -9223372036854775808 ≤ x.f4 ∧ x.f4 ≤ 9223372036854775807) (h : bodyErr f funcs = 0) : GoodB f := by
  unfold bodyErr at h
  by_cases h1 : f.f1 < 1 ∨ f.f1 > 4096 ∨ (f.f0.length : Int) > 8 ∨ (f.f2.length : Int) > 65536
  · rw [if_pos h1] at h; cases h
  rw [if_neg h1] at h
  by_cases h2 : f.f2.length = 0 ∨ lastOp f.f2 < 26 ∨ lastOp f.f2 > 29
  · rw [if_pos h2] at h; cases h
  rw [if_neg h2] at h
  by_cases h3 : f.f0.any (offB f.f1) = true
  · rw [if_pos h3] at h; cases h
  rw [if_neg h3] at h
  by_cases h4 : f.f2.all (instOf f.f1 (f.f2.length : Int) funcs) = true
  · refine ⟨⟨by omega, fun v hv => ?_⟩, by omega, by omega, fun x hx => good_inst (by omega) (by omega) hfu (hw x hx) (List.all_eq_true.mp h4 x hx)⟩
    have := List.any_eq_false.mp (by simpa using h3) v hv
    unfold offB at this
    simp only [Bool.or_eq_true, decide_eq_true_eq] at this
    omega
  · rw [if_neg h4] at h; cases h
theorem good_from (funcs : Int) (hfu : funcs ≤ 32) : ∀ (l : List S33) (i : Nat), (∀ f ∈ l, ∀ x ∈ f.f2, -9223372036854775808 ≤ x.f4 ∧ x.f4 ≤ 9223372036854775807) → (chkL funcs l i).1 = 0 → ∀ f ∈ l, GoodB f := by
  intro l
  induction l with
  | nil => intro i _ _ f hf; cases hf
  | cons f l ih =>
    intro i hw h g hg
    simp only [chkL] at h
    by_cases he : bodyErr f funcs = 0
    · rw [if_pos he] at h
      rcases List.mem_cons.1 hg with rfl | hg
      · exact good_body hfu (hw g (by simp)) he
      · exact ih (i + 1) (fun f hf => hw f (by simp [hf])) h g hg
    · rw [if_neg he] at h
      exact absurd h he
theorem good_all {l : List S33} (hw : ∀ f ∈ l, ∀ x ∈ f.f2, -9223372036854775808 ≤ x.f4 ∧ x.f4 ≤ 9223372036854775807) (h : (chk l).1 = 0) : l.length ≤ 32 ∧ ∀ f ∈ l, GoodB f := by
  unfold chk at h
  by_cases hl : (l.length : Int) > 32
  · rw [if_pos hl] at h; cases h
  · rw [if_neg hl] at h
    exact ⟨by omega, good_from _ (by omega) l 0 hw h⟩
end Go.Proofs.Ytkgjbdbhpohkiaa.CodeLaw
end
-- from YtkgjbdbhpohkiaaLiSplit
section
namespace Go.Proofs.Ytkgjbdbhpohkiaa.PLi
open Go.RowKit Go.Proofs.YtkgjbdbhpohkiaaW.PrintWords Go.Proofs.YtkgjbdbhpohkiaaW.PrintLast Go.Proofs.YtkgjbdbhpohkiaaW.PrintMore Go.Proofs.Ytkgjbdbhpohkiaa.Str
set_option linter.unusedVariables false
set_option linter.unusedSimpArgs false
end Go.Proofs.Ytkgjbdbhpohkiaa.PLi
end
