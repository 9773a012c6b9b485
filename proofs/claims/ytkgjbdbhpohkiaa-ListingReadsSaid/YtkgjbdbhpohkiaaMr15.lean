import Derived.Test.YtkgjbdbhpohkiaaMr14
import Derived.Lib.OthersKept
import Derived.Test.YtkgjbdbhpohkiaaMr5
import Derived.Deep.WholeRow
-- from YtkgjbdbhpohkiaaHCont
section
namespace Go.Proofs.Ytkgjbdbhpohkiaa.PLi
open Go.RowKit Go.Proofs.YtkgjbdbhpohkiaaW.PrintWords Go.Proofs.YtkgjbdbhpohkiaaW.PrintLast Go.Proofs.YtkgjbdbhpohkiaaW.PrintMore
set_option linter.unusedVariables false
set_option linter.unusedSimpArgs false
def offB (n s : Int) : Bool := decide (s < 0) || decide (n ≤ s)
theorem offB_neg {n s : Int} (h : s < 0) : offB n s = true := by unfold offB; rw [decide_eq_true h]; rfl
theorem offB_ge {n s : Int} (h : ¬ s < 0) (g : n ≤ s) : offB n s = true := by unfold offB; rw [decide_eq_true g, Bool.or_true]
theorem offB_in {n s : Int} (h : ¬ s < 0) (g : ¬ n ≤ s) : offB n s = false := by unfold offB; rw [decide_eq_false h, decide_eq_false g]; rfl
theorem any_succ (l : List Int) (p : Int → Bool) (i : Nat) (hi : i < l.length) : (l.take (i + 1)).any p = ((l.take i).any p || p (rd l i)) := by
 rw [List.take_succ_eq_append_getElem hi, List.any_append]
 congr 1
 show (p l[i] || false) = _
 rw [Bool.or_false]
 congr 1
 unfold rd
 rw [List.getD_eq_getElem?_getD, Int.toNat_natCast, List.getElem?_eq_getElem hi]
 rfl
theorem any_hit (l : List Int) (p : Int → Bool) (i : Nat) (hi : i < l.length) (h : p (rd l i) = true) : l.any p = true := by
 have h1 := any_succ l p i hi
 rw [h, Bool.or_true] at h1
 obtain ⟨x, hx, hp⟩ := List.any_eq_true.mp h1
 exact List.any_eq_true.mpr ⟨x, List.mem_of_mem_take hx, hp⟩
set_option maxHeartbeats 1000000 in
theorem off_two (s n : Int) (g : Nat) (w : World) (hc : w.cell? ⟨g, 0, none⟩ = some (.int .i64 n)) :
  Calls Try.prog 89 #[.int .i64 s, .pointer (some ⟨g, 0, none⟩)] w fun e w' => e = .returned (.bool (offB n s)) ∧ w = w' := by
 by_cases h1 : s < 0
 ·have d1 : decide (s < 0) = true := decide_eq_true h1
  rw [offB_neg h1]
  clear h1
  go_enter Try.func89, Try.ntmps89
  go_wp2
  go_ret
  exact ⟨rfl, rfl⟩
 ·have d1 : decide (s < 0) = false := decide_eq_false h1
  by_cases h2 : n ≤ s
  ·have d2 : decide (n ≤ s) = true := decide_eq_true h2
   rw [offB_ge h1 h2]
   clear h1 h2
   go_enter Try.func89, Try.ntmps89
   go_wp2
   go_ret
   exact ⟨rfl, rfl⟩
  ·have d2 : decide (n ≤ s) = false := decide_eq_false h2
   rw [offB_in h1 h2]
   clear h1 h2
   go_enter Try.func89, Try.ntmps89
   go_wp2
   go_ret
   exact ⟨rfl, rfl⟩
set_option maxHeartbeats 2000000 in
theorem index_two (l : List Int) (A0 : Option Addr) (c0 : Nat) (n : Int) (g : Nat) (w : World) (hr0 : Kd.C (Kd.int .i64) w A0 l.length l) (hc : w.cell? ⟨g, 0, none⟩ = some (.int .i64 n)) :
  Calls Try.prog 84 #[.slice A0 l.length c0, .func (.func 89) #[] #[.pointer (some ⟨g, 0, none⟩)]] w fun e w' => (∃ i : Int, e = .returned (.int .i64 i) ∧ (l.any (offB n) = decide (0 ≤ i))) ∧ w = w' := by
 have HR0 := Aside0.mk hr0
 have HL := Aside0.mk (show l.length ≤ 9223372036854775807 from hr0.2.1)
 clear hr0
 go_enter Try.func84, Try.ntmps84
 go_wp2
 go_loopg [8] l.length (fun kq v8 w' => ∃ i : Nat, v8 = .int .i64 i ∧ Aside0 (i ≤ l.length) ∧ Aside0 ((l.take i).any (offB n) = false) ∧ w = w' ∧ Aside0 (kq = l.length - i))
 case atStart => exact ⟨0, rfl, ⟨by omega⟩, ⟨rfl⟩, rfl, ⟨rfl⟩⟩
 case round =>
  obtain ⟨i, rfl, HI, HP, rfl, HK⟩ := hrel
  by_cases hi : i < l.length
  ·have hs := any_succ l (offB n) i hi
   rw [HP.out, Bool.false_or] at hs
   have HS := Aside0.mk hs
   clear hs
   have c0b : decide ((i : Int) < (l.length : Int)) = true := decide_eq_true (by omega)
   have c1b : decide (i < l.length) = true := decide_eq_true (by omega)
   obtain ⟨ad, ea, hx⟩ := Kd.at_int HR0.out i (by omega) (by omega)
   cases ea
   rw [Int.toNat_natCast] at hx
   have hlen := HL.out
   have hi9 : (i : Int) < 9223372036854775807 := by omega
   have HI2 := Aside0.mk hi
   clear hi
   have p0 : (0 ≤ (i : Int)) = True := eq_true (by omega)
   have q0 : ((i : Int) < (l.length : Int)) = True := eq_true (by have := HI2.out; omega)
   cases hb : offB n (rd l i) with
   | true =>
    have hit := any_hit l (offB n) i HI2.out hb
    have HB := Aside0.mk hb
    have HIT := Aside0.mk hit
    clear hb hit
    have hcl := off_two (rd l i) n g w hc
    rw [HB.out] at hcl
    go_wp2_with (go_at_call 89; refine hcl.mono ?_; rintro e w' ⟨rfl, rfl⟩)
    go_ret
    exact ⟨⟨_, rfl, by rw [HIT.out]; exact (decide_eq_true (by omega)).symm⟩, rfl⟩
   | false =>
    have HB := Aside0.mk hb
    clear hb
    have hcl := off_two (rd l i) n g w hc
    rw [HB.out] at hcl
    go_wp2_with (go_at_call 89; refine hcl.mono ?_; rintro e w' ⟨rfl, rfl⟩)
    go_roundg (l.length - (i + 1))
    case measure => have := HK.out; have := HI2.out; omega
    case rel => exact ⟨i + 1, by simp, ⟨by have := HI2.out; omega⟩, ⟨by rw [HS.out]; exact HB.out⟩, rfl, ⟨rfl⟩⟩
  ·have hn := HP.out
   rw [List.take_of_length_le (by omega)] at hn
   have HN := Aside0.mk hn
   clear hn
   have c0b : decide ((i : Int) < (l.length : Int)) = false := decide_eq_false (by omega)
   have c1b : decide (i < l.length) = false := decide_eq_false (by omega)
   clear hi
   go_wp2
   go_ret
   exact ⟨⟨_, rfl, by rw [HN.out]; rfl⟩, rfl⟩
set_option maxHeartbeats 1000000 in
theorem contains_two (l : List Int) (A0 : Option Addr) (c0 : Nat) (n : Int) (g : Nat) (w : World) (hr0 : Kd.C (Kd.int .i64) w A0 l.length l) (hc : w.cell? ⟨g, 0, none⟩ = some (.int .i64 n)) :
  Calls Try.prog 62 #[.slice A0 l.length c0, .func (.func 89) #[] #[.pointer (some ⟨g, 0, none⟩)]] w fun e w' => e = .returned (.bool (l.any (offB n))) ∧ w = w' := by
 have hix := index_two l A0 c0 n g w hr0 hc
 clear hr0 hc
 go_enter Try.func62, Try.ntmps62
 go_wp2_with (go_at_call 84; refine hix.mono ?_; rintro e w' ⟨⟨i, rfl, hi⟩, rfl⟩; have HI := Aside0.mk hi; clear hi)
 go_ret
 exact ⟨by rw [HI.out]; rfl, rfl⟩
set_option maxHeartbeats 1000000 in
theorem off_one (s n : Int) (g : Nat) (w : World) (hc : w.cell? ⟨g, 1, none⟩ = some (.int .i64 n)) :
  Calls Try.prog 63 #[.int .i64 s, .pointer (some ⟨g, 0, none⟩)] w fun e w' => e = .returned (.bool (offB n s)) ∧ w = w' := by
 by_cases h1 : s < 0
 ·have d1 : decide (s < 0) = true := decide_eq_true h1
  rw [offB_neg h1]
  clear h1
  go_enter Try.func63, Try.ntmps63
  go_wp2
  go_ret
  exact ⟨rfl, rfl⟩
 ·have d1 : decide (s < 0) = false := decide_eq_false h1
  by_cases h2 : n ≤ s
  ·have d2 : decide (n ≤ s) = true := decide_eq_true h2
   rw [offB_ge h1 h2]
   clear h1 h2
   go_enter Try.func63, Try.ntmps63
   go_wp2
   go_ret
   exact ⟨rfl, rfl⟩
  ·have d2 : decide (n ≤ s) = false := decide_eq_false h2
   rw [offB_in h1 h2]
   clear h1 h2
   go_enter Try.func63, Try.ntmps63
   go_wp2
   go_ret
   exact ⟨rfl, rfl⟩
set_option maxHeartbeats 2000000 in
theorem index_one (l : List Int) (A0 : Option Addr) (c0 : Nat) (n : Int) (g : Nat) (w : World) (hr0 : Kd.C (Kd.int .i64) w A0 l.length l) (hc : w.cell? ⟨g, 1, none⟩ = some (.int .i64 n)) :
  Calls Try.prog 84 #[.slice A0 l.length c0, .func (.func 63) #[] #[.pointer (some ⟨g, 0, none⟩)]] w fun e w' => (∃ i : Int, e = .returned (.int .i64 i) ∧ (l.any (offB n) = decide (0 ≤ i))) ∧ w = w' := by
 have HR0 := Aside0.mk hr0
 have HL := Aside0.mk (show l.length ≤ 9223372036854775807 from hr0.2.1)
 clear hr0
 go_enter Try.func84, Try.ntmps84
 go_wp2
 go_loopg [8] l.length (fun kq v8 w' => ∃ i : Nat, v8 = .int .i64 i ∧ Aside0 (i ≤ l.length) ∧ Aside0 ((l.take i).any (offB n) = false) ∧ w = w' ∧ Aside0 (kq = l.length - i))
 case atStart => exact ⟨0, rfl, ⟨by omega⟩, ⟨rfl⟩, rfl, ⟨rfl⟩⟩
 case round =>
  obtain ⟨i, rfl, HI, HP, rfl, HK⟩ := hrel
  by_cases hi : i < l.length
  ·have hs := any_succ l (offB n) i hi
   rw [HP.out, Bool.false_or] at hs
   have HS := Aside0.mk hs
   clear hs
   have c0b : decide ((i : Int) < (l.length : Int)) = true := decide_eq_true (by omega)
   have c1b : decide (i < l.length) = true := decide_eq_true (by omega)
   obtain ⟨ad, ea, hx⟩ := Kd.at_int HR0.out i (by omega) (by omega)
   cases ea
   rw [Int.toNat_natCast] at hx
   have hlen := HL.out
   have hi9 : (i : Int) < 9223372036854775807 := by omega
   have HI2 := Aside0.mk hi
   clear hi
   have p0 : (0 ≤ (i : Int)) = True := eq_true (by omega)
   have q0 : ((i : Int) < (l.length : Int)) = True := eq_true (by have := HI2.out; omega)
   cases hb : offB n (rd l i) with
   | true =>
    have hit := any_hit l (offB n) i HI2.out hb
    have HB := Aside0.mk hb
    have HIT := Aside0.mk hit
    clear hb hit
    have hcl := off_one (rd l i) n g w hc
    rw [HB.out] at hcl
    go_wp2_with (go_at_call 63; refine hcl.mono ?_; rintro e w' ⟨rfl, rfl⟩)
    go_ret
    exact ⟨⟨_, rfl, by rw [HIT.out]; exact (decide_eq_true (by omega)).symm⟩, rfl⟩
   | false =>
    have HB := Aside0.mk hb
    clear hb
    have hcl := off_one (rd l i) n g w hc
    rw [HB.out] at hcl
    go_wp2_with (go_at_call 63; refine hcl.mono ?_; rintro e w' ⟨rfl, rfl⟩)
    go_roundg (l.length - (i + 1))
    case measure => have := HK.out; have := HI2.out; omega
    case rel => exact ⟨i + 1, by simp, ⟨by have := HI2.out; omega⟩, ⟨by rw [HS.out]; exact HB.out⟩, rfl, ⟨rfl⟩⟩
  ·have hn := HP.out
   rw [List.take_of_length_le (by omega)] at hn
   have HN := Aside0.mk hn
   clear hn
   have c0b : decide ((i : Int) < (l.length : Int)) = false := decide_eq_false (by omega)
   have c1b : decide (i < l.length) = false := decide_eq_false (by omega)
   clear hi
   go_wp2
   go_ret
   exact ⟨⟨_, rfl, by rw [HN.out]; rfl⟩, rfl⟩
set_option maxHeartbeats 1000000 in
theorem contains_one (l : List Int) (A0 : Option Addr) (c0 : Nat) (n : Int) (g : Nat) (w : World) (hr0 : Kd.C (Kd.int .i64) w A0 l.length l) (hc : w.cell? ⟨g, 1, none⟩ = some (.int .i64 n)) :
  Calls Try.prog 62 #[.slice A0 l.length c0, .func (.func 63) #[] #[.pointer (some ⟨g, 0, none⟩)]] w fun e w' => e = .returned (.bool (l.any (offB n))) ∧ w = w' := by
 have hix := index_one l A0 c0 n g w hr0 hc
 clear hr0 hc
 go_enter Try.func62, Try.ntmps62
 go_wp2_with (go_at_call 84; refine hix.mono ?_; rintro e w' ⟨⟨i, rfl, hi⟩, rfl⟩; have HI := Aside0.mk hi; clear hi)
 go_ret
 exact ⟨by rw [HI.out]; rfl, rfl⟩
end Go.Proofs.Ytkgjbdbhpohkiaa.PLi
end
-- from YtkgjbdbhpohkiaaHInst
section
namespace Go.Proofs.Ytkgjbdbhpohkiaa.PLi
open Go.RowKit Go.Proofs.YtkgjbdbhpohkiaaW.PrintWords Go.Proofs.YtkgjbdbhpohkiaaW.PrintLast Go.Proofs.YtkgjbdbhpohkiaaW.PrintMore Go.Proofs.Ytkgjbdbhpohkiaa.Zip
set_option linter.unusedVariables false
set_option linter.unusedSimpArgs false
def emptyB (op p : Int) : Bool := (op == 21 && p == 0) || (op == 28 && p == 1)
def withinB (op p s n : Int) : Bool := (decide (0 ≤ s) && decide (s < n)) || (s == -1 && emptyB op p)
set_option maxHeartbeats 2000000 in
theorem empty_calls (op p : Int) (w : World) : Calls Try.prog 88 #[.int .i64 op, .int .i64 p] w fun e w' => e = .returned (.bool (emptyB op p)) ∧ w = w' := by
  cases h1 : (op == 21) <;> cases h2 : (p == 0) <;> cases h3 : (op == 28) <;> cases h4 : (p == 1) <;>
    (simp only [emptyB, h1, h2, h3, h4, Bool.and_true, Bool.and_false, Bool.true_and, Bool.false_and, Bool.or_true, Bool.or_false, Bool.true_or, Bool.false_or]
     go_enter Try.func88, Try.ntmps88
     go_wp2
     go_ret
     exact ⟨rfl, rfl⟩)
set_option maxHeartbeats 2000000 in
theorem within_calls (op p s n : Int) (g : Nat) (w : World) (hc : w.cell? ⟨g, 0, none⟩ = some (.int .i64 op)) : Calls Try.prog 87 #[.int .i64 p, .int .i64 s, .int .i64 n, .pointer (some ⟨g, 0, none⟩)] w fun e w' => e = .returned (.bool (withinB op p s n)) ∧ w = w' := by
  have hem := fun W => empty_calls op p W
  unfold withinB
  generalize emptyB op p = b at *
  cases h1 : decide (0 ≤ s) <;> cases h2 : decide (s < n) <;> cases h3 : (s == -1) <;> cases b <;>
    (simp only [Bool.and_true, Bool.and_false, Bool.true_and, Bool.false_and, Bool.or_true, Bool.or_false, Bool.true_or, Bool.false_or]
     go_enter Try.func87, Try.ntmps87
     go_wp2_with (go_at_call 88; refine (hem _).mono ?_; rintro e w' ⟨rfl, rfl⟩)
     go_ret
     exact ⟨rfl, rfl⟩)
theorem wpList_store_new {P : Program} {ops : Array Oper} {rest : List Oper} {o : Oper} {a : Act} {w : World} {Q : Exit → Act → World → Prop} (hgd : o.guard = none) (ty : TypeId) (x y : Operand) (ho : o.op = .store ty x y)
    (old cells : Array Value) (hx : a.eval x = .pointer (some ⟨w.heap.size, 0, none⟩)) (hy : a.eval y = .agg cells)
    (t : TypeId) (hi : (P.info? ty).map (·.size) = some cells.size) (hold : old.size = cells.size) (h1 : cells.all (·.oneCell') = true)
    (h : wpList P ops Q rest (a.put o.dst undef) (w.alloc (.cells cells t))) : wpList P ops Q (o :: rest) a (w.alloc (.cells old t)) := by
  refine wpList_store_row hgd ty x y ho w.heap.size cells hx hy t old (heap_alloc_last _ _) hi hold h1 ?_
  rw [World.setRow_alloc_new]
  exact h
def okP (op d a b nn : Int) (l : List Int) (t0 t1 size n funcs p : Int) : Bool :=
  if p = 0 then withinB op 0 d size
  else if p = 1 then (if op = 21 then decide (0 ≤ a) && decide (a < funcs) else withinB op 1 a size)
  else if p = 2 then withinB op 2 b size
  else if p = 3 then decide (0 ≤ nn) && decide (nn < 2097152)
  else if p = 4 then true
  else if p = 5 then decide (l.length ≤ 8) && !(l.any (offB size))
  else if p = 6 then decide (0 ≤ t0) && decide (t0 < n)
  else if p = 7 then decide (0 ≤ t0) && decide (t0 < n) && decide (0 ≤ t1) && decide (t1 < n)
  else true
structure Told where
  d : Int
  a : Int
  b : Int
  n : Int
  l : Bool
  t0 : Int
  t1 : Int
def toldP (d a b nn t0 t1 : Int) (y : Told) (p : Int) : Told :=
  if p = 0 then { y with d := d } else if p = 1 then { y with a := a } else if p = 2 then { y with b := b } else if p = 3 then { y with n := nn } else if p = 4 then { y with n := nn }
  else if p = 5 then { y with l := true } else if p = 6 then { y with t0 := t0 } else if p = 7 then { y with t0 := t0, t1 := t1 } else y
def told0 : Told := ⟨-1, -1, -1, 0, false, 0, 0⟩
def instB (op d a b nn : Int) (l : List Int) (t0 t1 size n funcs : Int) : Bool :=
  !(piecesL op).isEmpty && (piecesL op).all (okP op d a b nn l t0 t1 size n funcs) &&
    (let y := (piecesL op).foldl (toldP d a b nn t0 t1) told0
     d == y.d && a == y.a && b == y.b && nn == y.n && t0 == y.t0 && t1 == y.t1 && (if y.l then true else l.length == 0))
def code_inst.f (op d a b nn : Int) (l : List Int) (t0 t1 size n funcs : Int) : Option Bool := some (instB op d a b nn l t0 t1 size n funcs)
def yCells (op : Int) (y : Told) (v5 v6 : Value) : Array Value := #[.int .i64 op, .int .i64 y.d, .int .i64 y.a, .int .i64 y.b, .int .i64 y.n, if y.l then v6 else v5, .int .i64 y.t0, .int .i64 y.t1]
theorem all_take_succ (l : List Int) (p : Int → Bool) (i : Nat) (hi : i < l.length) : (l.take (i + 1)).all p = ((l.take i).all p && p (rd l i)) := by
  rw [List.take_succ_eq_append_getElem hi, List.all_append]
  congr 1
  show (p l[i] && true) = _
  rw [Bool.and_true]
  congr 1
  unfold rd
  rw [List.getD_eq_getElem?_getD, Int.toNat_natCast, List.getElem?_eq_getElem hi]
  rfl
theorem foldl_take_succ {β : Type} (l : List Int) (f : β → Int → β) (z : β) (i : Nat) (hi : i < l.length) : (l.take (i + 1)).foldl f z = f ((l.take i).foldl f z) (rd l i) := by
  rw [List.take_succ_eq_append_getElem hi, List.foldl_append]
  show f _ l[i] = _
  congr 1
  unfold rd
  rw [List.getD_eq_getElem?_getD, Int.toNat_natCast, List.getElem?_eq_getElem hi]
  rfl
theorem beq_nat0 (n : Nat) : ((n : Int) == 0) = (n == 0) := by
  by_cases h : n = 0
  · subst h; rfl
  · rw [beq_eq_false_iff_ne.mpr h]; exact beq_eq_false_iff_ne.mpr (by omega)
theorem all_miss (l : List Int) (p : Int → Bool) (i : Nat) (hi : i < l.length) (h : p (rd l i) = false) : l.all p = false := by
  have h1 := all_take_succ l p i hi
  rw [h, Bool.and_false] at h1
  rcases hl : l.all p with _ | _
  · rfl
  · rw [List.all_eq_true] at hl
    have := List.all_eq_true.mpr (fun x hx => hl x (List.mem_of_mem_take (i := i + 1) hx))
    rw [h1] at this
    cases this
def InstAt (gx gy : Nat) (xc yc : Array Value) (size : Int) (ps : List Int) (Ap : Option Addr) (cp : Nat) (w wr : World) : Prop :=
  wr.heap[gx]? = some (.cells xc 37 (0, 0)) ∧ wr.heap[gx + 1]? = some (.cells #[.int .i64 size] 3 (0, 0)) ∧ wr.heap[gy]? = some (.cells yc 37 (0, 0)) ∧
    Kd.R (Kd.int .i64) 3 wr gx (fun _ => True) (.slice Ap ps.length cp) ps ∧ Below w.heap.size w wr
theorem InstAt.put {gx gy : Nat} {xc yc yc' : Array Value} {size : Int} {ps : List Int} {Ap : Option Addr} {cp : Nat} {w wr : World} (h : InstAt gx gy xc yc size ps Ap cp w wr) (h1 : gx + 1 < gy) (h2 : w.heap.size ≤ gy) (j : Nat) (v : Value) (e : yc.setIfInBounds j v = yc') : InstAt gx gy xc yc' size ps Ap cp w (wr.setCell ⟨gy, j, none⟩ v) := by
  obtain ⟨a, b, c, d, f⟩ := h
  exact ⟨blk_far a (p := ⟨gy, j, none⟩) (show gx ≠ gy by omega) _, blk_far b (p := ⟨gy, j, none⟩) (show gx + 1 ≠ gy by omega) _, blk_put c j v e, Kd.R_mono (Kd.R_far (p := ⟨gy, j, none⟩) (Kd.R_types d c (by decide)) (fun _ hk => hk.2) v) (fun _ h_ => h_.1), below_set f h2⟩
set_option maxHeartbeats 8000000 in
set_option maxRecDepth 100000 in
theorem code_inst.calls (op d a b nn : Int) (A5 : Option Addr) (c5 : Nat) (l : List Int) (t0 t1 size n funcs : Int) (r : Bool) (w : World) (hr5 : Kd.C (Kd.int .i64) w A5 l.length l) (hc5 : l.length ≤ c5) (h : code_inst.f op d a b nn l t0 t1 size n funcs = some r) :
    Calls Try.prog 64 #[.agg #[.int .i64 op, .int .i64 d, .int .i64 a, .int .i64 b, .int .i64 nn, .slice A5 l.length c5, .int .i64 t0, .int .i64 t1], .int .i64 size, .int .i64 n, .int .i64 funcs] w fun e w' => e = .returned (.bool r) ∧ Below w.heap.size w w' := by
  obtain rfl := Option.some.inj h
  clear h
  have hu51 := Try.underlying37
  have hu49 := Try.underlying35
  have heq49 : ∀ (u v x y : Int) (W : World), (Op.equalIn 10000 35 (.agg #[.int .i64 u, .int .i64 v]) (.agg #[.int .i64 x, .int .i64 y])).run Try.prog W = .ok (u == x && (v == y)) W := fun u v x y W => eqA2 (d := 9998) Try.underlying35 Try.underlying3 (fun _ _ _ => by show _ = _; kernel_rfl) (fun _ _ _ => by show _ = _; kernel_rfl) (by kernel_rfl) u v x y W
  have HR5 := Aside0.mk hr5
  have HL5 := Aside0.mk (show l.length ≤ 9223372036854775807 from hr5.2.1)
  clear hr5
  obtain ⟨ps, hps⟩ : ∃ ps, piecesL op = ps := ⟨_, rfl⟩
  have HPS := Aside0.mk hps
  go_enter Try.func64, Try.ntmps64
  go_wp2_with fail
  refine (code_pieces.calls op ps _ (by rw [← HPS.out]; rfl)).mono ?_
  rintro e w1 ⟨v0, rfl, hR, hb1⟩
  have hx := blk_below (blk_alloc (blk_new w (.cells #[.int .i64 op, .int .i64 d, .int .i64 a, .int .i64 b, .int .i64 nn, .slice A5 l.length c5, .int .i64 t0, .int .i64 t1] 37)) (.cells #[.int .i64 size] 3)) hb1
  have hs := blk_below (blk_new (w.alloc (.cells #[.int .i64 op, .int .i64 d, .int .i64 a, .int .i64 b, .int .i64 nn, .slice A5 l.length c5, .int .i64 t0, .int .i64 t1] 37)) (.cells #[.int .i64 size] 3)) hb1
  simp only [World.size_alloc] at hs
  have HB1 := Aside0.mk (below_step (below_alloc (below_alloc (Below.refl w.heap.size w) _) _) hb1)
  have hz1 : w.heap.size + 2 ≤ w1.heap.size := by have := hb1.size; simp only [World.size_alloc] at this; omega
  obtain ⟨Ap, cp, rfl⟩ := Kd.R_slice hR
  have hez := fun W => nilEq (P := Try.prog) (w' := W) (t := 30) Try.underlying30 hR
  have HR := Aside0.mk (Kd.R_lower (Kd.R_mono (ok' := fun _ => True) hR (fun _ _ => trivial)) (show w.heap.size ≤ _ by simp only [World.size_alloc]; omega))
  have HX := Aside0.mk hx
  have HS := Aside0.mk hs
  have HZ1 := Aside0.mk hz1
  clear hR hb1 hx hs hz1
  have cx0 : w1.cell? ⟨w.heap.size, 0, none⟩ = some (.int .i64 op) := (blk_cell HX.out 0).trans rfl
  by_cases hn0 : ps.length = 0
  · have hn1 : (ps.length == 0) = true := beq_iff_eq.mpr hn0
    have hn2 : ps = [] := List.eq_nil_of_length_eq_zero hn0
    have e : instB op d a b nn l t0 t1 size n funcs = false := by unfold instB; rw [HPS.out, hn2]; rfl
    have HE := Aside0.mk e
    rw [hn1] at hez
    clear hn0 hn2 e
    go_wp2
    go_ret
    exact ⟨by rw [HE.out]; rfl, HB1.out⟩
  · have hn1 : (ps.length == 0) = false := beq_eq_false_iff_ne.mpr hn0
    rw [hn1] at hez
    clear hn0
    go_wp2_with fail
    refine (code_blank.calls op _ _ _ _ _ _ _ _ _ rfl).mono ?_
    rintro e w2 ⟨v5, rfl, hR2, hb2⟩
    obtain ⟨Ay, cy, rfl⟩ := Kd.R_slice hR2
    have HX2 := Aside0.mk (blk_below HX.out hb2)
    have HS2 := Aside0.mk (blk_below HS.out hb2)
    have HRp := Aside0.mk (Kd.R_below HR.out hb2)
    have hsz2 : w.heap.size + 2 ≤ w2.heap.size := by have := hb2.size; have := HZ1.out; omega
    have HB2 := Aside0.mk (below_step HB1.out hb2)
    have HY0 := Aside0.mk (blk_new w2 (.cells #[.int .i64 0, .int .i64 0, .int .i64 0, .int .i64 0, .int .i64 0, .slice none 0 0, .int .i64 0, .int .i64 0] 37))
    have HZ2 := Aside0.mk hsz2
    clear hR2 hb2 hsz2 hez cx0 HX HS HR HZ1 HB1
    go_wp2_with ((with_reducible refine gate_store (t := 37) (p := 10) (v := .tmp 22) rfl ?_); refine wpList_store_new rfl 37 (.tmp 10) (.tmp 22) rfl _ #[.int .i64 op, .int .i64 (-1), .int .i64 (-1), .int .i64 (-1), .int .i64 0, .slice Ay ([] : List Int).length cy, .int .i64 0, .int .i64 0] rfl rfl 37 (by kernel_rfl) rfl (by simp [Value.oneCell']) ?_)
    go_loopg [26] ps.length (fun kq v26 w' => ∃ i : Nat, v26 = .int .i64 i ∧ Aside0 (i ≤ ps.length) ∧ Aside0 ((ps.take i).all (okP op d a b nn l t0 t1 size n funcs) = true) ∧ Aside0 (InstAt w.heap.size w2.heap.size #[.int .i64 op, .int .i64 d, .int .i64 a, .int .i64 b, .int .i64 nn, .slice A5 l.length c5, .int .i64 t0, .int .i64 t1] (yCells op ((ps.take i).foldl (toldP d a b nn t0 t1) told0) (.slice Ay ([] : List Int).length cy) (.slice A5 l.length c5)) size ps Ap cp w w') ∧ Aside0 (kq = ps.length - i))
    case atStart => exact ⟨0, rfl, ⟨by omega⟩, ⟨rfl⟩, ⟨blk_alloc HX2.out _, blk_alloc HS2.out _, blk_new w2 _, Kd.R_alloc HRp.out _, below_alloc HB2.out _⟩, ⟨rfl⟩⟩
    case round =>
      obtain ⟨i, rfl, HI, HP, HT, HK⟩ := hrel
      obtain ⟨⟨yd, ya, yb, yn, yl, y0, y1⟩, hy⟩ : ∃ y, (ps.take i).foldl (toldP d a b nn t0 t1) told0 = y := ⟨_, rfl⟩
      have hT := HT.out
      rw [hy] at hT
      have HT2 := Aside0.mk hT
      have HY := Aside0.mk hy
      clear hT hy HT
      obtain ⟨v6, hv6⟩ : ∃ v : Value, v = .slice A5 l.length c5 := ⟨_, rfl⟩
      have HV6 := Aside0.mk hv6
      clear hv6
      have hne1 : w.heap.size ≠ w2.heap.size := by have := HZ2.out; omega
      have hne2 : w2.heap.size ≠ w.heap.size := by have := HZ2.out; omega
      have hne3 : w.heap.size + 1 ≠ w2.heap.size := by have := HZ2.out; omega
      have hne4 : w2.heap.size ≠ w.heap.size + 1 := by have := HZ2.out; omega
      have HN1 := Aside0.mk (show w.heap.size + 1 < w2.heap.size by have := HZ2.out; omega)
      have HN2 := Aside0.mk (show w.heap.size ≤ w2.heap.size by have := HZ2.out; omega)
      have cx0 : wr.cell? ⟨w.heap.size, 0, none⟩ = some (.int .i64 op) := (blk_cell HT2.out.1 0).trans rfl
      have cx1 : wr.cell? ⟨w.heap.size, 1, none⟩ = some (.int .i64 d) := (blk_cell HT2.out.1 1).trans rfl
      have cx2 : wr.cell? ⟨w.heap.size, 2, none⟩ = some (.int .i64 a) := (blk_cell HT2.out.1 2).trans rfl
      have cx3 : wr.cell? ⟨w.heap.size, 3, none⟩ = some (.int .i64 b) := (blk_cell HT2.out.1 3).trans rfl
      have cx4 : wr.cell? ⟨w.heap.size, 4, none⟩ = some (.int .i64 nn) := (blk_cell HT2.out.1 4).trans rfl
      have cx5 : wr.cell? ⟨w.heap.size, 5, none⟩ = some (.slice A5 l.length c5) := (blk_cell HT2.out.1 5).trans rfl
      have cx6 : wr.cell? ⟨w.heap.size, 6, none⟩ = some (.int .i64 t0) := (blk_cell HT2.out.1 6).trans rfl
      have cx7 : wr.cell? ⟨w.heap.size, 7, none⟩ = some (.int .i64 t1) := (blk_cell HT2.out.1 7).trans rfl
      have cs0 : wr.cell? ⟨w.heap.size + 1, 0, none⟩ = some (.int .i64 size) := (blk_cell HT2.out.2.1 0).trans rfl
      have cy0 : wr.cell? ⟨w2.heap.size, 0, none⟩ = some (.int .i64 op) := (blk_cell HT2.out.2.2.1 0).trans rfl
      have fy0 : wr.frozen? ⟨w2.heap.size, 0, none⟩ = false := blk_frozen HT2.out.2.2.1 0
      have cy1 : wr.cell? ⟨w2.heap.size, 1, none⟩ = some (.int .i64 yd) := (blk_cell HT2.out.2.2.1 1).trans rfl
      have fy1 : wr.frozen? ⟨w2.heap.size, 1, none⟩ = false := blk_frozen HT2.out.2.2.1 1
      have cy2 : wr.cell? ⟨w2.heap.size, 2, none⟩ = some (.int .i64 ya) := (blk_cell HT2.out.2.2.1 2).trans rfl
      have fy2 : wr.frozen? ⟨w2.heap.size, 2, none⟩ = false := blk_frozen HT2.out.2.2.1 2
      have cy3 : wr.cell? ⟨w2.heap.size, 3, none⟩ = some (.int .i64 yb) := (blk_cell HT2.out.2.2.1 3).trans rfl
      have fy3 : wr.frozen? ⟨w2.heap.size, 3, none⟩ = false := blk_frozen HT2.out.2.2.1 3
      have cy4 : wr.cell? ⟨w2.heap.size, 4, none⟩ = some (.int .i64 yn) := (blk_cell HT2.out.2.2.1 4).trans rfl
      have fy4 : wr.frozen? ⟨w2.heap.size, 4, none⟩ = false := blk_frozen HT2.out.2.2.1 4
      have fy5 : wr.frozen? ⟨w2.heap.size, 5, none⟩ = false := blk_frozen HT2.out.2.2.1 5
      have cy6 : wr.cell? ⟨w2.heap.size, 6, none⟩ = some (.int .i64 y0) := (blk_cell HT2.out.2.2.1 6).trans rfl
      have fy6 : wr.frozen? ⟨w2.heap.size, 6, none⟩ = false := blk_frozen HT2.out.2.2.1 6
      have cy7 : wr.cell? ⟨w2.heap.size, 7, none⟩ = some (.int .i64 y1) := (blk_cell HT2.out.2.2.1 7).trans rfl
      have fy7 : wr.frozen? ⟨w2.heap.size, 7, none⟩ = false := blk_frozen HT2.out.2.2.1 7
      have cy5 : wr.cell? ⟨w2.heap.size, 5, none⟩ = some (if yl = true then .slice A5 l.length c5 else .slice Ay ([] : List Int).length cy) := (blk_cell HT2.out.2.2.1 5).trans rfl
      by_cases hi : i < ps.length
      · obtain ⟨ad, ea, hx⟩ := Kd.at_int (Kd.R_reads' HT2.out.2.2.2.1).2.2 i (by omega) (by omega)
        cases ea
        rw [Int.toNat_natCast] at hx
        have hm1 := all_take_succ ps (okP op d a b nn l t0 t1 size n funcs) i hi
        rw [HP.out, Bool.true_and] at hm1
        have hm2 := foldl_take_succ ps (toldP d a b nn t0 t1) told0 i hi
        rw [HY.out] at hm2
        have hm3 := all_miss ps (okP op d a b nn l t0 t1 size n funcs) i hi
        have hi9 : (i : Int) < 9223372036854775807 := by have := (Kd.R_reads' HT2.out.2.2.2.1).2.2.2.1; omega
        have p0 : (0 ≤ (i : Int)) = True := eq_true (by omega)
        have q0 : ((i : Int) < (ps.length : Int)) = True := eq_true (by omega)
        have HI2 := Aside0.mk hi
        generalize rd ps i = p at *
        have HM1 := Aside0.mk hm1
        have HM2 := Aside0.mk hm2
        have HM3 := Aside0.mk hm3
        clear hi hm1 hm2 hm3 HP HY HI
        by_cases hp : p = 0
        · subst hp
          have HG := Aside0.mk (InstAt.put HT2.out HN1.out HN2.out 1 (.int .i64 d) rfl)
          have hwi : ∀ W : World, W.cell? ⟨w.heap.size, 0, none⟩ = some (.int .i64 op) → _ := fun W h => within_calls op 0 d size _ W h
          have HC0 := Aside0.mk ((blk_cell HG.out.1 0).trans rfl : (wr.setCell ⟨w2.heap.size, 1, none⟩ (.int .i64 d)).cell? ⟨w.heap.size, 0, none⟩ = some (.int .i64 op))
          cases hw : withinB op 0 d size with
          | false =>
            have HW := Aside0.mk hw
            rw [hw] at hwi
            clear hw
            have HF := (show Aside0 (instB op d a b nn l t0 t1 size n funcs = false) from ⟨by unfold instB; rw [HPS.out, HM3.out (by exact HW.out)]; simp⟩)
            clear HM1 HM2 HM3
            go_wp2_with (go_at_call 87; refine (hwi _ HC0.out).mono ?_; rintro e w' ⟨rfl, rfl⟩)
            go_ret
            exact ⟨by rw [HF.out]; rfl, HG.out.2.2.2.2⟩
          | true =>
            have HW := Aside0.mk hw
            rw [hw] at hwi
            clear hw
            go_wp2_with (go_at_call 87; refine (hwi _ HC0.out).mono ?_; rintro e w' ⟨rfl, rfl⟩)
            go_roundg (ps.length - (i + 1))
            case measure => have := HK.out; have := HI2.out; omega
            case rel =>
              refine ⟨i + 1, by simp, ⟨by have := HI2.out; omega⟩, ⟨by rw [HM1.out]; exact (by exact HW.out)⟩, ⟨?_⟩, ⟨rfl⟩⟩
              rw [HM2.out]
              exact HG.out
        have hb0 : (p == 0) = false := beq_eq_false_iff_ne.mpr hp
        have HQ0 := Aside0.mk hp
        clear hp
        by_cases hp : p = 1
        · subst hp
          by_cases ho : op = 21
          · have hob : (op == 21) = true := beq_iff_eq.mpr ho
            have HO := Aside0.mk ho
            clear ho
            have HG := Aside0.mk (InstAt.put HT2.out HN1.out HN2.out 2 (.int .i64 a) rfl)
            have HC0 := Aside0.mk ((blk_cell HG.out.1 0).trans rfl : (wr.setCell ⟨w2.heap.size, 2, none⟩ (.int .i64 a)).cell? ⟨w.heap.size, 0, none⟩ = some (.int .i64 op))
            have hwi : ∀ W : World, W.cell? ⟨w.heap.size, 0, none⟩ = some (.int .i64 op) → _ := fun W h => within_calls op 1 a size _ W h
            cases hw1 : decide (0 ≤ a) <;> cases hw2 : decide (a < funcs)
            · have HW := Aside0.mk (show (decide (0 ≤ a) && decide (a < funcs)) = false by rw [hw1, hw2]; rfl)
              have HF := (show Aside0 (instB op d a b nn l t0 t1 size n funcs = false) from ⟨by unfold instB; rw [HPS.out, HM3.out (by show (if op = 21 then _ else _) = _; rw [if_pos HO.out]; exact HW.out)]; simp⟩)
              clear HM1 HM2 HM3
              go_wp2_with (go_at_call 87; refine (hwi _ HC0.out).mono ?_; rintro e w' ⟨rfl, rfl⟩)
              go_ret
              exact ⟨by rw [HF.out]; rfl, HG.out.2.2.2.2⟩
            · have HW := Aside0.mk (show (decide (0 ≤ a) && decide (a < funcs)) = false by rw [hw1, hw2]; rfl)
              have HF := (show Aside0 (instB op d a b nn l t0 t1 size n funcs = false) from ⟨by unfold instB; rw [HPS.out, HM3.out (by show (if op = 21 then _ else _) = _; rw [if_pos HO.out]; exact HW.out)]; simp⟩)
              clear HM1 HM2 HM3
              go_wp2_with (go_at_call 87; refine (hwi _ HC0.out).mono ?_; rintro e w' ⟨rfl, rfl⟩)
              go_ret
              exact ⟨by rw [HF.out]; rfl, HG.out.2.2.2.2⟩
            · have HW := Aside0.mk (show (decide (0 ≤ a) && decide (a < funcs)) = false by rw [hw1, hw2]; rfl)
              have HF := (show Aside0 (instB op d a b nn l t0 t1 size n funcs = false) from ⟨by unfold instB; rw [HPS.out, HM3.out (by show (if op = 21 then _ else _) = _; rw [if_pos HO.out]; exact HW.out)]; simp⟩)
              clear HM1 HM2 HM3
              go_wp2_with (go_at_call 87; refine (hwi _ HC0.out).mono ?_; rintro e w' ⟨rfl, rfl⟩)
              go_ret
              exact ⟨by rw [HF.out]; rfl, HG.out.2.2.2.2⟩
            · have HW := Aside0.mk (show (decide (0 ≤ a) && decide (a < funcs)) = true by rw [hw1, hw2]; rfl)
              go_wp2_with (go_at_call 87; refine (hwi _ HC0.out).mono ?_; rintro e w' ⟨rfl, rfl⟩)
              go_roundg (ps.length - (i + 1))
              case measure => have := HK.out; have := HI2.out; omega
              case rel =>
                refine ⟨i + 1, by simp, ⟨by have := HI2.out; omega⟩, ⟨by rw [HM1.out]; exact (by show (if op = 21 then _ else _) = _; rw [if_pos HO.out]; exact HW.out)⟩, ⟨?_⟩, ⟨rfl⟩⟩
                rw [HM2.out]
                exact HG.out
          · have hob : (op == 21) = false := beq_eq_false_iff_ne.mpr ho
            have HO := Aside0.mk ho
            clear ho
            have HG := Aside0.mk (InstAt.put HT2.out HN1.out HN2.out 2 (.int .i64 a) rfl)
            have hwi : ∀ W : World, W.cell? ⟨w.heap.size, 0, none⟩ = some (.int .i64 op) → _ := fun W h => within_calls op 1 a size _ W h
            have HC0 := Aside0.mk ((blk_cell HG.out.1 0).trans rfl : (wr.setCell ⟨w2.heap.size, 2, none⟩ (.int .i64 a)).cell? ⟨w.heap.size, 0, none⟩ = some (.int .i64 op))
            cases hw : withinB op 1 a size with
            | false =>
              have HW := Aside0.mk hw
              rw [hw] at hwi
              clear hw
              have HF := (show Aside0 (instB op d a b nn l t0 t1 size n funcs = false) from ⟨by unfold instB; rw [HPS.out, HM3.out (by show (if op = 21 then _ else withinB op 1 a size) = _; rw [if_neg HO.out]; exact HW.out)]; simp⟩)
              clear HM1 HM2 HM3
              go_wp2_with (go_at_call 87; refine (hwi _ HC0.out).mono ?_; rintro e w' ⟨rfl, rfl⟩)
              go_ret
              exact ⟨by rw [HF.out]; rfl, HG.out.2.2.2.2⟩
            | true =>
              have HW := Aside0.mk hw
              rw [hw] at hwi
              clear hw
              go_wp2_with (go_at_call 87; refine (hwi _ HC0.out).mono ?_; rintro e w' ⟨rfl, rfl⟩)
              go_roundg (ps.length - (i + 1))
              case measure => have := HK.out; have := HI2.out; omega
              case rel =>
                refine ⟨i + 1, by simp, ⟨by have := HI2.out; omega⟩, ⟨by rw [HM1.out]; exact (by show (if op = 21 then _ else withinB op 1 a size) = _; rw [if_neg HO.out]; exact HW.out)⟩, ⟨?_⟩, ⟨rfl⟩⟩
                rw [HM2.out]
                exact HG.out
        have hb1 : (p == 1) = false := beq_eq_false_iff_ne.mpr hp
        have HQ1 := Aside0.mk hp
        clear hp
        by_cases hp : p = 2
        · subst hp
          have HG := Aside0.mk (InstAt.put HT2.out HN1.out HN2.out 3 (.int .i64 b) rfl)
          have hwi : ∀ W : World, W.cell? ⟨w.heap.size, 0, none⟩ = some (.int .i64 op) → _ := fun W h => within_calls op 2 b size _ W h
          have HC0 := Aside0.mk ((blk_cell HG.out.1 0).trans rfl : (wr.setCell ⟨w2.heap.size, 3, none⟩ (.int .i64 b)).cell? ⟨w.heap.size, 0, none⟩ = some (.int .i64 op))
          cases hw : withinB op 2 b size with
          | false =>
            have HW := Aside0.mk hw
            rw [hw] at hwi
            clear hw
            have HF := (show Aside0 (instB op d a b nn l t0 t1 size n funcs = false) from ⟨by unfold instB; rw [HPS.out, HM3.out (by exact HW.out)]; simp⟩)
            clear HM1 HM2 HM3
            go_wp2_with (go_at_call 87; refine (hwi _ HC0.out).mono ?_; rintro e w' ⟨rfl, rfl⟩)
            go_ret
            exact ⟨by rw [HF.out]; rfl, HG.out.2.2.2.2⟩
          | true =>
            have HW := Aside0.mk hw
            rw [hw] at hwi
            clear hw
            go_wp2_with (go_at_call 87; refine (hwi _ HC0.out).mono ?_; rintro e w' ⟨rfl, rfl⟩)
            go_roundg (ps.length - (i + 1))
            case measure => have := HK.out; have := HI2.out; omega
            case rel =>
              refine ⟨i + 1, by simp, ⟨by have := HI2.out; omega⟩, ⟨by rw [HM1.out]; exact (by exact HW.out)⟩, ⟨?_⟩, ⟨rfl⟩⟩
              rw [HM2.out]
              exact HG.out
        have hb2 : (p == 2) = false := beq_eq_false_iff_ne.mpr hp
        have HQ2 := Aside0.mk hp
        clear hp
        by_cases hp : p = 3
        · subst hp
          have HG := Aside0.mk (InstAt.put HT2.out HN1.out HN2.out 4 (.int .i64 nn) rfl)
          cases hw1 : decide (0 ≤ nn) <;> cases hw2 : decide (nn < 2097152)
          · have HW := Aside0.mk (show (decide (0 ≤ nn) && decide (nn < 2097152)) = false by rw [hw1, hw2]; rfl)
            have HF := (show Aside0 (instB op d a b nn l t0 t1 size n funcs = false) from ⟨by unfold instB; rw [HPS.out, HM3.out (by exact HW.out)]; simp⟩)
            clear HM1 HM2 HM3
            go_wp2
            go_ret
            exact ⟨by rw [HF.out]; rfl, HG.out.2.2.2.2⟩
          · have HW := Aside0.mk (show (decide (0 ≤ nn) && decide (nn < 2097152)) = false by rw [hw1, hw2]; rfl)
            have HF := (show Aside0 (instB op d a b nn l t0 t1 size n funcs = false) from ⟨by unfold instB; rw [HPS.out, HM3.out (by exact HW.out)]; simp⟩)
            clear HM1 HM2 HM3
            go_wp2
            go_ret
            exact ⟨by rw [HF.out]; rfl, HG.out.2.2.2.2⟩
          · have HW := Aside0.mk (show (decide (0 ≤ nn) && decide (nn < 2097152)) = false by rw [hw1, hw2]; rfl)
            have HF := (show Aside0 (instB op d a b nn l t0 t1 size n funcs = false) from ⟨by unfold instB; rw [HPS.out, HM3.out (by exact HW.out)]; simp⟩)
            clear HM1 HM2 HM3
            go_wp2
            go_ret
            exact ⟨by rw [HF.out]; rfl, HG.out.2.2.2.2⟩
          · have HW := Aside0.mk (show (decide (0 ≤ nn) && decide (nn < 2097152)) = true by rw [hw1, hw2]; rfl)
            go_wp2
            go_roundg (ps.length - (i + 1))
            case measure => have := HK.out; have := HI2.out; omega
            case rel =>
              refine ⟨i + 1, by simp, ⟨by have := HI2.out; omega⟩, ⟨by rw [HM1.out]; exact HW.out⟩, ⟨?_⟩, ⟨rfl⟩⟩
              rw [HM2.out]
              exact HG.out
        have hb3 : (p == 3) = false := beq_eq_false_iff_ne.mpr hp
        have HQ3 := Aside0.mk hp
        clear hp
        by_cases hp : p = 4
        · subst hp
          have HG := Aside0.mk (InstAt.put HT2.out HN1.out HN2.out 4 (.int .i64 nn) rfl)
          go_wp2
          go_roundg (ps.length - (i + 1))
          case measure => have := HK.out; have := HI2.out; omega
          case rel =>
            refine ⟨i + 1, by simp, ⟨by have := HI2.out; omega⟩, ⟨by rw [HM1.out]; exact rfl⟩, ⟨?_⟩, ⟨rfl⟩⟩
            rw [HM2.out]
            exact HG.out
        have hb4 : (p == 4) = false := beq_eq_false_iff_ne.mpr hp
        have HQ4 := Aside0.mk hp
        clear hp
        by_cases hp : p = 5
        · subst hp
          have HG := Aside0.mk (InstAt.put HT2.out HN1.out HN2.out 5 (.slice A5 l.length c5) rfl)
          have HC0 := Aside0.mk ((blk_cell HG.out.2.1 0).trans rfl : (wr.setCell ⟨w2.heap.size, 5, none⟩ (.slice A5 l.length c5)).cell? ⟨w.heap.size + 1, 0, none⟩ = some (.int .i64 size))
          have HCR := Aside0.mk (Kd.C_below HR5.out HG.out.2.2.2.2)
          by_cases hl8 : l.length ≤ 8
          · have hl9 : decide ((l.length : Int) ≤ 8) = true := decide_eq_true (by omega)
            have hl10 : decide (l.length ≤ 8) = true := decide_eq_true hl8
            have hcn := contains_two l A5 c5 size (w.heap.size + 1) _ HCR.out HC0.out
            cases hw : l.any (offB size) with
            | true =>
              have HW := Aside0.mk (show (decide (l.length ≤ 8) && !(l.any (offB size))) = false by rw [hl10, hw]; rfl)
              rw [hw] at hcn
              clear hw hl8
              have HF := (show Aside0 (instB op d a b nn l t0 t1 size n funcs = false) from ⟨by unfold instB; rw [HPS.out, HM3.out (by exact HW.out)]; simp⟩)
              clear HM1 HM2 HM3
              go_wp2_with (go_at_call 62; refine hcn.mono ?_; rintro e w' ⟨rfl, rfl⟩)
              go_ret
              exact ⟨by rw [HF.out]; rfl, HG.out.2.2.2.2⟩
            | false =>
              have HW := Aside0.mk (show (decide (l.length ≤ 8) && !(l.any (offB size))) = true by rw [hl10, hw]; rfl)
              rw [hw] at hcn
              clear hw hl8
              go_wp2_with (go_at_call 62; refine hcn.mono ?_; rintro e w' ⟨rfl, rfl⟩)
              go_roundg (ps.length - (i + 1))
              case measure => have := HK.out; have := HI2.out; omega
              case rel =>
                refine ⟨i + 1, by simp, ⟨by have := HI2.out; omega⟩, ⟨by rw [HM1.out]; exact HW.out⟩, ⟨?_⟩, ⟨rfl⟩⟩
                rw [HM2.out]
                exact HG.out
          · have hl9 : decide ((l.length : Int) ≤ 8) = false := decide_eq_false (by omega)
            have hl10 : decide (l.length ≤ 8) = false := decide_eq_false hl8
            have HW := Aside0.mk (show (decide (l.length ≤ 8) && !(l.any (offB size))) = false by rw [hl10]; rfl)
            clear hl8
            have HF := (show Aside0 (instB op d a b nn l t0 t1 size n funcs = false) from ⟨by unfold instB; rw [HPS.out, HM3.out (by exact HW.out)]; simp⟩)
            clear HM1 HM2 HM3
            go_wp2
            go_ret
            exact ⟨by rw [HF.out]; rfl, HG.out.2.2.2.2⟩
        have hb5 : (p == 5) = false := beq_eq_false_iff_ne.mpr hp
        have HQ5 := Aside0.mk hp
        clear hp
        by_cases hp : p = 6
        · subst hp
          have HG := Aside0.mk (InstAt.put HT2.out HN1.out HN2.out 6 (.int .i64 t0) rfl)
          cases hw1 : decide (0 ≤ t0) <;> cases hw2 : decide (t0 < n)
          · have HW := Aside0.mk (show (decide (0 ≤ t0) && decide (t0 < n)) = false by rw [hw1, hw2]; rfl)
            have HF := (show Aside0 (instB op d a b nn l t0 t1 size n funcs = false) from ⟨by unfold instB; rw [HPS.out, HM3.out (by exact HW.out)]; simp⟩)
            clear HM1 HM2 HM3
            go_wp2
            go_ret
            exact ⟨by rw [HF.out]; rfl, HG.out.2.2.2.2⟩
          · have HW := Aside0.mk (show (decide (0 ≤ t0) && decide (t0 < n)) = false by rw [hw1, hw2]; rfl)
            have HF := (show Aside0 (instB op d a b nn l t0 t1 size n funcs = false) from ⟨by unfold instB; rw [HPS.out, HM3.out (by exact HW.out)]; simp⟩)
            clear HM1 HM2 HM3
            go_wp2
            go_ret
            exact ⟨by rw [HF.out]; rfl, HG.out.2.2.2.2⟩
          · have HW := Aside0.mk (show (decide (0 ≤ t0) && decide (t0 < n)) = false by rw [hw1, hw2]; rfl)
            have HF := (show Aside0 (instB op d a b nn l t0 t1 size n funcs = false) from ⟨by unfold instB; rw [HPS.out, HM3.out (by exact HW.out)]; simp⟩)
            clear HM1 HM2 HM3
            go_wp2
            go_ret
            exact ⟨by rw [HF.out]; rfl, HG.out.2.2.2.2⟩
          · have HW := Aside0.mk (show (decide (0 ≤ t0) && decide (t0 < n)) = true by rw [hw1, hw2]; rfl)
            go_wp2
            go_roundg (ps.length - (i + 1))
            case measure => have := HK.out; have := HI2.out; omega
            case rel =>
              refine ⟨i + 1, by simp, ⟨by have := HI2.out; omega⟩, ⟨by rw [HM1.out]; exact HW.out⟩, ⟨?_⟩, ⟨rfl⟩⟩
              rw [HM2.out]
              exact HG.out
        have hb6 : (p == 6) = false := beq_eq_false_iff_ne.mpr hp
        have HQ6 := Aside0.mk hp
        clear hp
        by_cases hp : p = 7
        · subst hp
          have HG0 := Aside0.mk (InstAt.put HT2.out HN1.out HN2.out 6 (.int .i64 t0) rfl)
          have HG := Aside0.mk (InstAt.put HG0.out HN1.out HN2.out 7 (.int .i64 t1) rfl)
          cases hw0 : decide (0 ≤ t0) with
          | false =>
            have HW := Aside0.mk (show (decide (0 ≤ t0) && decide (t0 < n) && decide (0 ≤ t1) && decide (t1 < n)) = false by rw [hw0]; simp)
            have HF := (show Aside0 (instB op d a b nn l t0 t1 size n funcs = false) from ⟨by unfold instB; rw [HPS.out, HM3.out (by exact HW.out)]; simp⟩)
            clear HM1 HM2 HM3
            go_wp2
            go_ret
            exact ⟨by rw [HF.out]; rfl, HG.out.2.2.2.2⟩
          | true =>
            cases hw1 : decide (t0 < n) with
            | false =>
              have HW := Aside0.mk (show (decide (0 ≤ t0) && decide (t0 < n) && decide (0 ≤ t1) && decide (t1 < n)) = false by rw [hw0, hw1]; simp)
              have HF := (show Aside0 (instB op d a b nn l t0 t1 size n funcs = false) from ⟨by unfold instB; rw [HPS.out, HM3.out (by exact HW.out)]; simp⟩)
              clear HM1 HM2 HM3
              go_wp2
              go_ret
              exact ⟨by rw [HF.out]; rfl, HG.out.2.2.2.2⟩
            | true =>
              cases hw2 : decide (0 ≤ t1) with
              | false =>
                have HW := Aside0.mk (show (decide (0 ≤ t0) && decide (t0 < n) && decide (0 ≤ t1) && decide (t1 < n)) = false by rw [hw0, hw1, hw2]; simp)
                have HF := (show Aside0 (instB op d a b nn l t0 t1 size n funcs = false) from ⟨by unfold instB; rw [HPS.out, HM3.out (by exact HW.out)]; simp⟩)
                clear HM1 HM2 HM3
                go_wp2
                go_ret
                exact ⟨by rw [HF.out]; rfl, HG.out.2.2.2.2⟩
              | true =>
                cases hw3 : decide (t1 < n) with
                | false =>
                  have HW := Aside0.mk (show (decide (0 ≤ t0) && decide (t0 < n) && decide (0 ≤ t1) && decide (t1 < n)) = false by rw [hw0, hw1, hw2, hw3]; simp)
                  have HF := (show Aside0 (instB op d a b nn l t0 t1 size n funcs = false) from ⟨by unfold instB; rw [HPS.out, HM3.out (by exact HW.out)]; simp⟩)
                  clear HM1 HM2 HM3
                  go_wp2
                  go_ret
                  exact ⟨by rw [HF.out]; rfl, HG.out.2.2.2.2⟩
                | true =>
                  have HW := Aside0.mk (show (decide (0 ≤ t0) && decide (t0 < n) && decide (0 ≤ t1) && decide (t1 < n)) = true by rw [hw0, hw1, hw2, hw3]; rfl)
                  go_wp2
                  go_roundg (ps.length - (i + 1))
                  case measure => have := HK.out; have := HI2.out; omega
                  case rel =>
                    refine ⟨i + 1, by simp, ⟨by have := HI2.out; omega⟩, ⟨by rw [HM1.out]; exact HW.out⟩, ⟨?_⟩, ⟨rfl⟩⟩
                    rw [HM2.out]
                    exact HG.out
        have hb7 : (p == 7) = false := beq_eq_false_iff_ne.mpr hp
        have HQ7 := Aside0.mk hp
        clear hp
        have HO1 := Aside0.mk (show okP op d a b nn l t0 t1 size n funcs p = true by unfold okP; rw [if_neg HQ0.out, if_neg HQ1.out, if_neg HQ2.out, if_neg HQ3.out, if_neg HQ4.out, if_neg HQ5.out, if_neg HQ6.out, if_neg HQ7.out])
        have HO2 := Aside0.mk (show toldP d a b nn t0 t1 ⟨yd, ya, yb, yn, yl, y0, y1⟩ p = ⟨yd, ya, yb, yn, yl, y0, y1⟩ by unfold toldP; rw [if_neg HQ0.out, if_neg HQ1.out, if_neg HQ2.out, if_neg HQ3.out, if_neg HQ4.out, if_neg HQ5.out, if_neg HQ6.out, if_neg HQ7.out])
        go_wp2
        go_roundg (ps.length - (i + 1))
        case measure => have := HK.out; have := HI2.out; omega
        case rel => exact ⟨i + 1, by simp, ⟨by have := HI2.out; omega⟩, ⟨by rw [HM1.out]; exact HO1.out⟩, ⟨by rw [HM2.out, HO2.out]; exact HT2.out⟩, ⟨rfl⟩⟩
      · have hn := HP.out
        have hyy := HY.out
        rw [List.take_of_length_le (by omega)] at hn hyy
        have c0b : decide ((i : Int) < (ps.length : Int)) = false := decide_eq_false (by omega)
        have c1b : decide (i < ps.length) = false := decide_eq_false (by omega)
        have hpe : ps.isEmpty = false := by cases ps with | nil => exact absurd hn1 (by simp) | cons => rfl
        have HE := Aside0.mk (show instB op d a b nn l t0 t1 size n funcs = (d == yd && a == ya && b == yb && nn == yn && t0 == y0 && t1 == y1 && (if yl then true else l.length == 0)) by unfold instB; rw [HPS.out, hn, hyy, hpe]; simp)
        clear hn hyy hpe hi hn1 HP HY HI
        cases e0 : (d == yd) with
        | false =>
          have HF := Aside0.mk (show instB op d a b nn l t0 t1 size n funcs = false by rw [HE.out, e0]; simp)
          clear HE
          go_wp2
          go_ret
          exact ⟨by rw [HF.out]; first | rfl | (simp; done), HT2.out.2.2.2.2⟩
        | true =>
          cases e1 : (a == ya) with
          | false =>
            have HF := Aside0.mk (show instB op d a b nn l t0 t1 size n funcs = false by rw [HE.out, e0, e1]; simp)
            clear HE
            go_wp2
            go_ret
            exact ⟨by rw [HF.out]; first | rfl | (simp; done), HT2.out.2.2.2.2⟩
          | true =>
            cases e2 : (b == yb) with
            | false =>
              have HF := Aside0.mk (show instB op d a b nn l t0 t1 size n funcs = false by rw [HE.out, e0, e1, e2]; simp)
              clear HE
              go_wp2
              go_ret
              exact ⟨by rw [HF.out]; first | rfl | (simp; done), HT2.out.2.2.2.2⟩
            | true =>
              cases e3 : (nn == yn) with
              | false =>
                have HF := Aside0.mk (show instB op d a b nn l t0 t1 size n funcs = false by rw [HE.out, e0, e1, e2, e3]; simp)
                clear HE
                go_wp2
                go_ret
                exact ⟨by rw [HF.out]; first | rfl | (simp; done), HT2.out.2.2.2.2⟩
              | true =>
                cases e4 : (t0 == y0) with
                | false =>
                  have HF := Aside0.mk (show instB op d a b nn l t0 t1 size n funcs = false by rw [HE.out, e0, e1, e2, e3, e4]; simp)
                  clear HE
                  go_wp2
                  go_ret
                  exact ⟨by rw [HF.out]; first | rfl | (simp; done), HT2.out.2.2.2.2⟩
                | true =>
                  cases e5 : (t1 == y1) with
                  | false =>
                    have HF := Aside0.mk (show instB op d a b nn l t0 t1 size n funcs = false by rw [HE.out, e0, e1, e2, e3, e4, e5]; simp)
                    clear HE
                    go_wp2
                    go_ret
                    exact ⟨by rw [HF.out]; first | rfl | (simp; done), HT2.out.2.2.2.2⟩
                  | true =>
                    cases yl with
                    | true =>
                      have HF := Aside0.mk (show instB op d a b nn l t0 t1 size n funcs = true by rw [HE.out, e0, e1, e2, e3, e4, e5]; rfl)
                      have cy5' : wr.cell? ⟨w2.heap.size, 5, none⟩ = some (.slice A5 l.length c5) := cy5
                      clear cy5 HE
                      go_wp2
                      go_ret
                      exact ⟨by rw [HF.out]; first | rfl | (simp; done), HT2.out.2.2.2.2⟩
                    | false =>
                      have cy5' : wr.cell? ⟨w2.heap.size, 5, none⟩ = some (.slice Ay 0 cy) := cy5
                      clear cy5
                      cases hz : (l.length == 0) with
                      | true =>
                        have HF := Aside0.mk (show instB op d a b nn l t0 t1 size n funcs = true by rw [HE.out, e0, e1, e2, e3, e4, e5]; exact hz)
                        have hz2 : ((l.length : Int) == 0) = true := by rw [← hz]; exact beq_nat0 l.length
                        clear HE
                        go_wp2
                        go_ret
                        exact ⟨by rw [HF.out]; first | rfl | (simp [hz2]; done), HT2.out.2.2.2.2⟩
                      | false =>
                        have HF := Aside0.mk (show instB op d a b nn l t0 t1 size n funcs = false by rw [HE.out, e0, e1, e2, e3, e4, e5]; exact hz)
                        have hz2 : ((l.length : Int) == 0) = false := by rw [← hz]; exact beq_nat0 l.length
                        clear HE
                        go_wp2
                        go_ret
                        exact ⟨by rw [HF.out]; first | rfl | (simp [hz2]; done), HT2.out.2.2.2.2⟩
end Go.Proofs.Ytkgjbdbhpohkiaa.PLi
end
