/- The reference's small tests: a letter in a text, a slot, a place, slots all within; and its test of an instruction, put together. -/
import Derived.Test.YtpjehipemljkpaaPCox12
import Derived.Test.YtpjehipemljkpaaPCox12
import Derived.Test.YtpjehipemljkpaaPCox12
import Derived.Test.YtpjehipemljkpaaPCox11
import Derived.Test.YtpjehipemljkpaaHPiecesR
import Derived.Test.YtpjehipemljkpaaHInst
import Derived.Test.YtpjehipemljkpaaStr
namespace Go.Proofs.Ytpjehipemljkpaa.CodeLaw
open Go.RowKit Go.Proofs.Ytpjehipemljkpaa.PCo Go.Proofs.YtpjehipemljkpaaW.PrintWords Go.Proofs.YtpjehipemljkpaaW.PrintLast Go.Proofs.YtpjehipemljkpaaW.PrintMore Go.Proofs.Ytpjehipemljkpaa.Str
set_option linter.unusedSimpArgs false
set_option linter.unusedVariables false

/-! ### the reference's small tests -/
/-- Does a text have a letter? -/
def hasC (s : ByteArray) (c : Int) : Bool := s.toList.any (fun b => (b.toNat : Int) == c)
theorem in_l0 (c : Int) : ∀ (rest pre : List UInt8), (pre ++ rest).length ≤ 1000 → Ev (fun k => turntableref33_in.l0 k (mk (pre ++ rest)) c (pre.length : Int)) (rest.any (fun b => (b.toNat : Int) == c)) := by
  intro rest
  induction rest with
  | nil =>
    intro pre h
    refine Ev.step (fun k => by simp only [turntableref33_in.l0]; rfl) (ev_neg ?_ (Ev.now _))
    rw [mk_size]; simp
  | cons b rest ih =>
    intro pre h
    have hp : pre ++ b :: rest = (pre ++ [b]) ++ rest := by simp
    have hw : wrap64 ((pre.length : Int) + 1) = ((pre ++ [b]).length : Int) := by rw [w64 (by omega) (by simp at h; omega)]; simp
    refine Ev.step (fun k => by simp only [turntableref33_in.l0]; rfl) (ev_pos (by rw [mk_size]; simp; omega) (ev_pos (by omega) ?_))
    rw [bt_pre]
    by_cases hc : (b.toNat : Int) = c
    · refine ev_pos hc ?_
      have : List.any (b :: rest) (fun b => (b.toNat : Int) == c) = true := by simp [hc]
      rw [this]; exact Ev.now _
    · refine ev_neg hc ?_
      have : List.any (b :: rest) (fun b => (b.toNat : Int) == c) = rest.any (fun b => (b.toNat : Int) == c) := by simp [hc]
      rw [this, hw, hp]
      exact ih (pre ++ [b]) (by rw [← hp]; exact h)
theorem in_any (s : ByteArray) (c : Int) (h : s.size ≤ 1000) : Ev (fun k => turntableref33_in.f k s c) (hasC s c) := by
  have := in_l0 c s.data.toList [] (by simpa using h)
  rw [List.nil_append] at this
  have e : mk s.data.toList = s := (mk_data s).symm
  unfold hasC
  rw [toList_eq]
  rw [e] at this
  exact this
theorem rd_at (l : List Int) (i : Nat) (h : i < l.length) : rd l (i : Int) = l[i] := by
  unfold rd
  rw [List.getD_eq_getElem?_getD, Int.toNat_natCast, List.getElem?_eq_getElem h]; rfl
theorem rd47_at (l : List S47) (i : Nat) (h : i < l.length) : rd_T47 l (i : Int) = l[i] := by
  unfold rd_T47
  rw [List.getD_eq_getElem?_getD, Int.toNat_natCast, List.getElem?_eq_getElem h]; rfl
theorem rd51_at (l : List S51) (i : Nat) (h : i < l.length) : rd_T51 l (i : Int) = l[i] := by
  unfold rd_T51
  rw [List.getD_eq_getElem?_getD, Int.toNat_natCast, List.getElem?_eq_getElem h]; rfl
def allB (l : List Int) (n : Int) : Bool := !(l.any (offB n)) && decide (l.length ≤ 8)
theorem all_l0 (l : List Int) (n : Int) (hl : l.length ≤ 9223372036854775806) : ∀ (d i : Nat), l.length - i = d → Ev (fun k => turntableref33_all.l0 k l n (i : Int)) (!((l.drop i).any (offB n)) && decide (l.length ≤ 8)) := by
  intro d
  induction d with
  | zero =>
    intro i hd
    refine Ev.step (fun k => by simp only [turntableref33_all.l0]; rfl) (ev_neg (by omega) ?_)
    rw [List.drop_eq_nil_of_le (by omega)]
    have : decide ((l.length : Int) ≤ 8) = decide (l.length ≤ 8) := by congr 1; exact propext (by omega)
    rw [this]
    exact Ev.now _
  | succ d ih =>
    intro i hd
    have hi : i < l.length := by omega
    refine Ev.step (fun k => by simp only [turntableref33_all.l0]; rfl) (ev_pos (by omega) (ev_pos (by omega) ?_))
    rw [rd_at l i hi, List.drop_eq_getElem_cons hi, List.any_cons]
    by_cases h1 : l[i] < 0
    · rw [offB_neg h1]; exact ev_pos h1 (Ev.now _)
    · by_cases h2 : n ≤ l[i]
      · rw [offB_ge h1 h2]; exact ev_neg h1 (ev_pos h2 (Ev.now _))
      · rw [offB_in h1 h2, Bool.false_or]
        have hw : wrap64 ((i : Int) + 1) = ((i + 1 : Nat) : Int) := by rw [w64 (by omega) (by omega)]; omega
        rw [hw]
        exact ev_neg h1 (ev_neg h2 (ih (i + 1) (by omega)))
theorem all_any (l : List Int) (n : Int) (hl : l.length ≤ 9223372036854775806) : Ev (fun k => turntableref33_all.f k l n) (allB l n) := all_l0 l n hl _ 0 rfl

def slotB (has may : Bool) (s size : Int) : Bool := if !has || (may && s == -1) then s == -1 else decide (0 ≤ s) && decide (s < size)
theorem slot_any (has may : Bool) (s size : Int) : turntableref33_slot.f has may s size = some (slotB has may s size) := by
  unfold turntableref33_slot.f slotB
  by_cases h1 : s = -1
  · subst h1; cases has <;> cases may <;> simp
  · by_cases h2 : 0 ≤ s <;> cases has <;> cases may <;> simp [h1, h2]
def placeB (has : Bool) (n size : Int) : Bool := if has then decide (0 ≤ n) && decide (n < size) else n == 0
theorem place_any (has : Bool) (n size : Int) : turntableref33_place.f has n size = some (placeB has n size) := by
  unfold turntableref33_place.f placeB
  by_cases h2 : 0 ≤ n <;> cases has <;> simp [h2]

/-- The reference's test of an instruction, out of the letters of its operation. -/
def refB (op d a b nn : Int) (l : List Int) (t0 t1 size n funcs : Int) : Bool :=
  let s := piecesS op
  !(s.toList.isEmpty) && (if op = 21 then decide (0 ≤ a) && decide (a < funcs) else slotB (hasC s 97) (op == 28) a size) && slotB (hasC s 100) (op == 21) d size && slotB (hasC s 98) false b size &&
    !((hasC s 115 && (decide (nn < 0) || decide (2097152 ≤ nn))) || (!hasC s 115 && !hasC s 119 && nn != 0)) &&
    !((hasC s 108 && !allB l size) || (!hasC s 108 && (l.length != 0))) &&
    placeB (hasC s 111 || hasC s 116) t0 n && placeB (hasC s 116) t1 n
theorem size_ite {c : Prop} [Decidable c] {a b : ByteArray} {n : Nat} (ha : a.size ≤ n) (hb : b.size ≤ n) : (if c then a else b).size ≤ n := by split <;> assumption
theorem pieces_len (op : Int) : (piecesS op).size ≤ 1000 := by
  unfold piecesS
  repeat (first | decide | refine size_ite (by decide) ?_)
theorem ev_ifB {α : Type} {c : Bool} {g f : Nat → Option α} {r : α} (h : c = true → Ev g r) (k : c = false → Ev f r) : Ev (fun n => if c = true then g n else f n) r := by
  cases hc : c
  · exact ev_neg (by simp) (k hc)
  · exact ev_pos rfl (h hc)
theorem ev_bind' {α β : Type} {g : Nat → Option α} {f : Nat → α → Option β} {a : α} {r : β} (h : Ev g a) (k : Ev (fun n => f n a) r) : Ev (fun n => (g n).bind (f n)) r := Ev.bind h k
end Go.Proofs.Ytpjehipemljkpaa.CodeLaw
