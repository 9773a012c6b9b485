import Derived.Test.YtkgjbdbhpohkiaaMr2
import Derived.Test.YtkgjbdbhpohkiaaMr7
import Derived.Deep.WholeRow
import Derived.KernelRfl
import Derived.Laws.CopyOwn
import Derived.Test.YtkgjbdbhpohkiaaMr5
import Derived.Laws.RangeAny
import Derived.Deep.RegionLaw
-- from YtkgjbdbhpohkiaaHRows
section
namespace Go.Proofs.Ytkgjbdbhpohkiaa.PLi
open Go.RowKit Go.Proofs.YtkgjbdbhpohkiaaW.PrintWords Go.Proofs.YtkgjbdbhpohkiaaW.PrintLast Go.Proofs.YtkgjbdbhpohkiaaW.PrintMore Go.Proofs.Ytkgjbdbhpohkiaa.Str
set_option linter.unusedVariables false
set_option linter.unusedSimpArgs false
structure OpRow where
 w : ByteArray
 t0 : Int
 t1 : Int
 m : Int
 traps : Bool
 reads : Bool
 writes : Bool
 seen : Bool
 ends : Bool
def noRow : OpRow := ⟨mk [], 0, 0, 0, false, false, false, false, false⟩
def opRows : List OpRow := [
 ⟨mk [], 0, 0, 0, false, false, false, false, false⟩,
 ⟨mk [99, 111, 110, 115, 116], 0, 0, 1, false, false, false, false, false⟩,
 ⟨mk [97, 100, 100], 1, 1, 1, false, false, false, false, false⟩,
 ⟨mk [115, 117, 98], 1, 1, 1, false, false, false, false, false⟩,
 ⟨mk [109, 117, 108], 1, 1, 1, false, false, false, false, false⟩,
 ⟨mk [100, 105, 118], 1, 1, 1, true, false, false, false, false⟩,
 ⟨mk [108, 116], 1, 1, 1, false, false, false, false, false⟩,
 ⟨mk [101, 113], 1, 1, 1, false, false, false, false, false⟩,
 ⟨mk [110, 105, 108], 0, 0, 2, false, false, false, false, false⟩,
 ⟨mk [115, 97, 109, 101], 2, 2, 1, false, false, false, false, false⟩,
 ⟨mk [110, 101, 119], 0, 0, 2, false, false, false, false, false⟩,
 ⟨mk [108, 111, 97, 100, 46, 105], 2, 0, 1, true, true, false, false, false⟩,
 ⟨mk [108, 111, 97, 100, 46, 112], 2, 0, 2, true, true, false, false, false⟩,
 ⟨mk [115, 116, 111, 114, 101, 46, 105], 2, 1, 0, true, false, true, true, false⟩,
 ⟨mk [115, 116, 111, 114, 101, 46, 112], 2, 2, 0, true, false, true, true, false⟩,
 ⟨mk [115, 108, 111, 116], 2, 0, 3, true, false, false, false, false⟩,
 ⟨mk [103, 101, 116, 46, 105], 3, 0, 1, true, true, false, false, false⟩,
 ⟨mk [103, 101, 116, 46, 112], 3, 0, 2, true, true, false, false, false⟩,
 ⟨mk [112, 117, 116, 46, 105], 3, 1, 0, true, false, true, true, false⟩,
 ⟨mk [112, 117, 116, 46, 112], 3, 2, 0, true, false, true, true, false⟩,
 ⟨mk [112, 104, 105], 0, 0, 0, false, false, false, false, false⟩,
 ⟨mk [99, 97, 108, 108], 0, 0, 0, true, true, true, true, false⟩,
 ⟨mk [111, 117, 116], 1, 0, 0, false, false, false, true, false⟩,
 ⟨mk [112, 111, 108, 108], 0, 0, 0, false, false, false, true, false⟩,
 ⟨mk [114, 101, 108, 111, 99], 0, 0, 0, false, false, false, false, false⟩,
 ⟨mk [109, 97, 114, 107], 2, 0, 0, false, false, false, true, false⟩,
 ⟨mk [98, 114], 0, 0, 0, false, false, false, true, true⟩,
 ⟨mk [105, 102], 1, 0, 0, false, false, false, true, true⟩,
 ⟨mk [114, 101, 116], 0, 0, 0, false, false, false, true, true⟩,
 ⟨mk [102, 97, 105, 108], 0, 0, 0, true, false, false, true, true⟩]
def rowCells (r : OpRow) : List Value := [.string r.w, .int .i64 r.t0, .int .i64 r.t1, .int .i64 r.m, .bool r.traps, .bool r.reads, .bool r.writes, .bool r.seen, .bool r.ends]
def rowsV : Array Value := (opRows.flatMap rowCells).toArray
def zerosV : Array Value := ((List.replicate 30 noRow).flatMap rowCells).toArray
theorem wpList_buildTo1 {P : Program} {ops : Array Oper} {rest : List Oper} {o : Oper} {a : Act} {w : World} {Q : Exit → Act → World → Prop} (hg : o.guard = none) (t : TypeId) (parts : Array (Nat × Operand)) (ho : o.op = .build t parts) (cells : Array Value)
  (hf : P.built t (parts.map fun (i, x) => (i, a.eval x)).toList = some cells)
  (h : wpList P ops Q rest (a.put o.dst (.agg cells)) w) : wpList P ops Q (o :: rest) a w := by
 refine wpList_build hg t parts ho ?_ ?_
 ·rw [hf]; rfl
 ·rw [hf]; exact h
theorem wpList_store_newR {P : Program} {ops : Array Oper} {rest : List Oper} {o : Oper} {a : Act} {w : World} {Q : Exit → Act → World → Prop} (hgd : o.guard = none) (ty : TypeId) (x y : Operand) (ho : o.op = .store ty x y)
  (old cells : Array Value) (hx : a.eval x = .pointer (some ⟨w.heap.size, 0, none⟩)) (hy : a.eval y = .agg cells)
  (t : TypeId) (hi : (P.info? ty).map (·.size) = some cells.size) (hold : old.size = cells.size) (h1 : cells.all (·.oneCell') = true)
  (h : wpList P ops Q rest (a.put o.dst undef) (w.alloc (.cells cells t))) : wpList P ops Q (o :: rest) a (w.alloc (.cells old t)) := by
 refine wpList_store_row hgd ty x y ho w.heap.size cells hx hy t old (heap_alloc_last _ _) hi hold h1 ?_
 rw [World.setRow_alloc_new]
 exact h
set_option maxHeartbeats 4000000 in
set_option maxRecDepth 100000 in
theorem ops_rows.calls (w : World) : Calls Try.prog 76 #[] w fun e w' => e = .returned (.agg rowsV) ∧ Below w.heap.size w w' := by
 have hz := (zero_of_info (P := Try.prog) (t := 98) (v := .agg zerosV) (n := 270) (by kernel_rfl)).1
 go_enter Try.func76, Try.ntmps76
 go_wp2_with (first | ((with_reducible refine gate_dst (N := 49) rfl ?_); refine wpList_buildTo1 rfl 98 _ rfl rowsV (by kernel_rfl) ?_) | ((with_reducible refine gate_store (t := 98) (p := 0) (v := .tmp 49) rfl ?_); refine wpList_store_newR rfl 98 (.tmp 0) (.tmp 49) rfl zerosV rowsV rfl rfl 98 (by kernel_rfl) (by kernel_rfl) (by kernel_rfl) ?_))
 refine bodyPost_ret (results_single rfl (Vals.cell w.heap.size 98 rowsV (0, 0) _ rfl (blk_new w _) Try.underlying98 rfl (by kernel_rfl) Vals.nil)) rfl ⟨rfl, below_alloc (Below.refl _ _) _⟩
end Go.Proofs.Ytkgjbdbhpohkiaa.PLi
end
-- from YtkgjbdbhpohkiaaHOf
section
namespace Go.Proofs.Ytkgjbdbhpohkiaa.PLi
open Go.RowKit Go.Proofs.YtkgjbdbhpohkiaaW.PrintWords Go.Proofs.YtkgjbdbhpohkiaaW.PrintLast Go.Proofs.YtkgjbdbhpohkiaaW.PrintMore Go.Proofs.Ytkgjbdbhpohkiaa.Str
set_option linter.unusedVariables false
set_option linter.unusedSimpArgs false
theorem run_index_rows (n : Nat) (hn : n < 30) (w : World) : (Instr.index 98 (.agg rowsV) (.int .i64 n)).run Try.prog w = .ok (.agg (rowCells (opRows.getD n noRow)).toArray) w := by
 have h : n = 0 ∨ n = 1 ∨ n = 2 ∨ n = 3 ∨ n = 4 ∨ n = 5 ∨ n = 6 ∨ n = 7 ∨ n = 8 ∨ n = 9 ∨ n = 10 ∨ n = 11 ∨ n = 12 ∨ n = 13 ∨ n = 14 ∨ n = 15 ∨ n = 16 ∨ n = 17 ∨ n = 18 ∨ n = 19 ∨ n = 20 ∨ n = 21 ∨ n = 22 ∨ n = 23 ∨ n = 24 ∨ n = 25 ∨ n = 26 ∨ n = 27 ∨ n = 28 ∨ n = 29 := by omega
 rcases h with rfl | rfl | rfl | rfl | rfl | rfl | rfl | rfl | rfl | rfl | rfl | rfl | rfl | rfl | rfl | rfl | rfl | rfl | rfl | rfl | rfl | rfl | rfl | rfl | rfl | rfl | rfl | rfl | rfl | rfl <;> (show _ = _; kernel_rfl)
def opOf (op : Int) : OpRow := if op < 1 ∨ 29 < op then noRow else opRows.getD op.toNat noRow
def ops_of.f (a0 : Int) : Option (ByteArray × Int × Int × Int × Bool × Bool × Bool × Bool × Bool) :=
 some ((opOf a0).w, (opOf a0).t0, (opOf a0).t1, (opOf a0).m, (opOf a0).traps, (opOf a0).reads, (opOf a0).writes, (opOf a0).seen, (opOf a0).ends)
set_option maxHeartbeats 4000000 in
set_option maxRecDepth 100000 in
theorem of_calls (a0 : Int) (w : World) : Calls Try.prog 45 #[.int .i64 a0] w fun e w' => e = .returned (.agg (rowCells (opOf a0)).toArray) ∧ Below w.heap.size w w' := by
 by_cases h1 : a0 < 1
 ·have d1 : decide (a0 < 1) = true := decide_eq_true h1
  have e : opOf a0 = noRow := if_pos (.inl h1)
  rw [e]
  clear e h1
  go_enter Try.func45, Try.ntmps45
  go_wp2
  refine bodyPost_ret (results_single rfl (Vals.cell w.heap.size 77 (rowCells noRow).toArray (0, 0) _ rfl (blk_new w _) Try.underlying77 rfl (by kernel_rfl) Vals.nil)) rfl ⟨rfl, below_alloc (Below.refl _ _) _⟩
 ·have d1 : decide (a0 < 1) = false := decide_eq_false h1
  by_cases h2 : 29 < a0
  ·have d2 : decide (29 < a0) = true := decide_eq_true h2
   have e : opOf a0 = noRow := if_pos (.inr h2)
   rw [e]
   clear e h1 h2
   go_enter Try.func45, Try.ntmps45
   go_wp2
   refine bodyPost_ret (results_single rfl (Vals.cell w.heap.size 77 (rowCells noRow).toArray (0, 0) _ rfl (blk_new w _) Try.underlying77 rfl (by kernel_rfl) Vals.nil)) rfl ⟨rfl, below_alloc (Below.refl _ _) _⟩
  ·have d2 : decide (29 < a0) = false := decide_eq_false h2
   obtain ⟨n, rfl⟩ : ∃ n : Nat, a0 = n := ⟨a0.toNat, by omega⟩
   have hn : n < 30 := by omega
   obtain ⟨r, hr⟩ : ∃ r, opRows.getD n noRow = r := ⟨_, rfl⟩
   have hix : ∀ W, (Instr.index 98 (.agg rowsV) (.int .i64 n)).run Try.prog W = .ok (.agg (rowCells r).toArray) W := fun W => hr ▸ run_index_rows n hn W
   have e : opOf (n : Int) = opRows.getD n noRow := if_neg (by omega)
   rw [e, hr]
   clear e h1 h2 hr
   go_enter Try.func45, Try.ntmps45
   go_wp2_with fail
   refine (ops_rows.calls _).mono ?_
   rintro e w1 ⟨rfl, hb⟩
   have HB := Aside0.mk hb
   have h1 := blk_below (blk_new w (.cells #[.string ⟨#[]⟩, .int .i64 0, .int .i64 0, .int .i64 0, .bool false, .bool false, .bool false, .bool false, .bool false] 77)) hb
   have H1 := Aside0.mk h1
   have HB := Aside0.mk (below_step (below_alloc (Below.refl _ _) _) hb)
   clear h1 hb
   go_wp2_with (first | ((with_reducible refine gate_store (t := 77) (p := 2) (v := .tmp 12) rfl ?_); refine wpList_store_row rfl 77 (.tmp 2) (.tmp 12) rfl w.heap.size (rowCells r).toArray rfl rfl 77 _ H1.out (by kernel_rfl) rfl (by simp [rowCells, Value.oneCell']) ?_))
   refine bodyPost_ret (results_single rfl (Vals.cell w.heap.size 77 (rowCells r).toArray (0, 0) _ rfl (setRow_heap _ _ _ _ _ _ H1.out) Try.underlying77 rfl (by kernel_rfl) Vals.nil)) rfl ⟨rfl, below_setRow HB.out (Nat.le_refl _) _⟩
theorem ops_of.calls (a0 : Int) (r1 : ByteArray) (r2 r3 r4 : Int) (r5 r6 r7 r8 r9 : Bool) (w : World) (h : ops_of.f a0 = some (r1, r2, r3, r4, r5, r6, r7, r8, r9)) :
  Calls Try.prog 45 #[.int .i64 a0] w fun e w' => e = .returned (.agg #[.string r1, .int .i64 r2, .int .i64 r3, .int .i64 r4, .bool r5, .bool r6, .bool r7, .bool r8, .bool r9]) ∧ Below w.heap.size w w' := by
 have h0 := Option.some.inj h
 simp only [Prod.mk.injEq] at h0
 obtain ⟨rfl, rfl, rfl, rfl, rfl, rfl, rfl, rfl, rfl⟩ := h0
 exact of_calls a0 w
end Go.Proofs.Ytkgjbdbhpohkiaa.PLi
end
-- from YtkgjbdbhpohkiaaPLix5
section
namespace Go.Proofs.Ytkgjbdbhpohkiaa.PLi
open Go.RowKit Go.Proofs.YtkgjbdbhpohkiaaW.PrintWords Go.Proofs.YtkgjbdbhpohkiaaW.PrintLast Go.Proofs.YtkgjbdbhpohkiaaW.PrintMore Go.Proofs.Ytkgjbdbhpohkiaa.Zip
attribute [local go_sem] max2_int min2_int max_two min_two max_three min_three max_four min_four   -- for this text's walks alone
set_option linter.unusedVariables false
set_option linter.unusedSimpArgs false
def ops_typed.f (a0 : Int) : Option (Bool) := if a0 = 20 then (some true) else (if a0 = 21 then (some true) else (some (a0 == 24)))
set_option maxHeartbeats 8000000 in
set_option maxRecDepth 100000 in
theorem ops_typed.calls (a0 : Int) (r : Bool) (w : World) (h : ops_typed.f a0 = some r) :
  Calls Try.prog 46 #[.int .i64 a0] w fun e w' => e = .returned (.bool r) ∧ Drawn0 w w' := by
 have H : (if a0 = 20 then (some true) else (if a0 = 21 then (some true) else (some (a0 == 24)))) = some r := h
 clear h
 by_cases c2 : a0 = 20
 ·rw [if_pos c2] at H
  have c2b0 : (a0 == 20) = true := beq_iff_eq.mpr c2
  have c2b1 : (a0 != 20) = false := bne_eq_false_iff_eq.mpr c2
  clear c2
  obtain rfl := Option.some.inj H
  go_enter Try.func46, Try.ntmps46
  go_wp2
  go_ret
  exact ⟨by first | rfl | (simp; done) | (simp [*]; done), zQ⟩
 ·rw [if_neg c2] at H
  have c2b0 : (a0 == 20) = false := beq_eq_false_iff_ne.mpr c2
  have c2b1 : (a0 != 20) = true := bne_iff_ne.mpr c2
  by_cases c3 : a0 = 21
  ·rw [if_pos c3] at H
   have c3b0 : (a0 == 21) = true := beq_iff_eq.mpr c3
   have c3b1 : (a0 != 21) = false := bne_eq_false_iff_eq.mpr c3
   clear c3
   obtain rfl := Option.some.inj H
   go_enter Try.func46, Try.ntmps46
   go_wp2
   go_ret
   exact ⟨by first | rfl | (simp; done) | (simp [*]; done), zQ⟩
  ·rw [if_neg c3] at H
   have c3b0 : (a0 == 21) = false := beq_eq_false_iff_ne.mpr c3
   have c3b1 : (a0 != 21) = true := bne_iff_ne.mpr c3
   obtain rfl := Option.some.inj H
   go_enter Try.func46, Try.ntmps46
   go_wp2
   go_ret
   exact ⟨by first | rfl | (simp; done) | (simp [*]; done), zQ⟩
def ops_Letter.f (a0 : Int) : Option (ByteArray) := if a0 = 1 then (some (⟨#[105]⟩ : ByteArray)) else (if a0 = 2 then (some (⟨#[112]⟩ : ByteArray)) else (if a0 = 3 then (some (⟨#[100]⟩ : ByteArray)) else (some (⟨#[110]⟩ : ByteArray))))
set_option maxHeartbeats 8000000 in
set_option maxRecDepth 100000 in
theorem ops_Letter.calls (a0 : Int) (r : ByteArray) (w : World) (h : ops_Letter.f a0 = some r) :
  Calls Try.prog 47 #[.int .i64 a0] w fun e w' => e = .returned (.string r) ∧ Drawn0 w w' := by
 have H : (if a0 = 1 then (some (⟨#[105]⟩ : ByteArray)) else (if a0 = 2 then (some (⟨#[112]⟩ : ByteArray)) else (if a0 = 3 then (some (⟨#[100]⟩ : ByteArray)) else (some (⟨#[110]⟩ : ByteArray))))) = some r := h
 clear h
 by_cases c2 : a0 = 1
 ·rw [if_pos c2] at H
  have c2b0 : (a0 == 1) = true := beq_iff_eq.mpr c2
  have c2b1 : (a0 != 1) = false := bne_eq_false_iff_eq.mpr c2
  clear c2
  obtain rfl := Option.some.inj H
  go_enter Try.func47, Try.ntmps47
  go_wp2
  go_ret
  exact ⟨by first | rfl | (simp; done) | (simp [*]; done), zQ⟩
 ·rw [if_neg c2] at H
  have c2b0 : (a0 == 1) = false := beq_eq_false_iff_ne.mpr c2
  have c2b1 : (a0 != 1) = true := bne_iff_ne.mpr c2
  by_cases c3 : a0 = 2
  ·rw [if_pos c3] at H
   have c3b0 : (a0 == 2) = true := beq_iff_eq.mpr c3
   have c3b1 : (a0 != 2) = false := bne_eq_false_iff_eq.mpr c3
   clear c3
   obtain rfl := Option.some.inj H
   go_enter Try.func47, Try.ntmps47
   go_wp2
   go_ret
   exact ⟨by first | rfl | (simp; done) | (simp [*]; done), zQ⟩
  ·rw [if_neg c3] at H
   have c3b0 : (a0 == 2) = false := beq_eq_false_iff_ne.mpr c3
   have c3b1 : (a0 != 2) = true := bne_iff_ne.mpr c3
   by_cases c4 : a0 = 3
   ·rw [if_pos c4] at H
    have c4b0 : (a0 == 3) = true := beq_iff_eq.mpr c4
    have c4b1 : (a0 != 3) = false := bne_eq_false_iff_eq.mpr c4
    clear c4
    obtain rfl := Option.some.inj H
    go_enter Try.func47, Try.ntmps47
    go_wp2
    go_ret
    exact ⟨by first | rfl | (simp; done) | (simp [*]; done), zQ⟩
   ·rw [if_neg c4] at H
    have c4b0 : (a0 == 3) = false := beq_eq_false_iff_ne.mpr c4
    have c4b1 : (a0 != 3) = true := bne_iff_ne.mpr c4
    obtain rfl := Option.some.inj H
    go_enter Try.func47, Try.ntmps47
    go_wp2
    go_ret
    exact ⟨by first | rfl | (simp; done) | (simp [*]; done), zQ⟩
def ops_Word.f (a0_0 : Int) (a0_1 : Int) (a0_2 : Int) (a0_3 : Int) (l0_4 : List Int) (l0_5 : List Int) (a0_6 : ByteArray) (a0_7 : Int) : Option (ByteArray) := (ops_of.f a0_0).bind fun bt118 => ((ops_typed.f a0_0).bind fun t127 => (if t127 = true then ((ops_Letter.f a0_3).bind fun t128 => (if 1 + t128.size ≤ 9223372036854775807 then (if bt118.1.size + ((⟨#[46]⟩ : ByteArray) ++ t128).size ≤ 9223372036854775807 then (some (bt118.1 ++ ((⟨#[46]⟩ : ByteArray) ++ t128))) else (none)) else (none))) else (some bt118.1)))
set_option maxHeartbeats 8000000 in
set_option maxRecDepth 100000 in
theorem ops_Word.calls (a0_0 : Int) (a0_1 : Int) (a0_2 : Int) (a0_3 : Int) (A0_4 : Option Addr) (c0_4 : Nat) (l0_4 : List Int) (A0_5 : Option Addr) (c0_5 : Nat) (l0_5 : List Int) (a0_6 : ByteArray) (a0_7 : Int) (r : ByteArray) (w : World) (hr0_4 : Kd.C (Kd.int .i64) w A0_4 l0_4.length l0_4) (hc0_4 : l0_4.length ≤ c0_4) (hr0_5 : Kd.C (Kd.int .i64) w A0_5 l0_5.length l0_5) (hc0_5 : l0_5.length ≤ c0_5) (h : ops_Word.f a0_0 a0_1 a0_2 a0_3 l0_4 l0_5 a0_6 a0_7 = some r) :
  Calls Try.prog 21 #[.agg #[.int .i64 a0_0, .int .i64 a0_1, .int .i64 a0_2, .int .i64 a0_3, .slice A0_4 l0_4.length c0_4, .slice A0_5 l0_5.length c0_5, .string a0_6, .int .i64 a0_7]] w fun e w' => e = .returned (.string r) ∧ Below w.heap.size w w' := by
 have hu48 := Try.underlying48
 have hfl77_0 : ∀ (u0 u1 u2 u3 u4 u5 u6 u7 u8 : Value) (W : World), (Instr.field 77 (.agg #[u0, u1, u2, u3, u4, u5, u6, u7, u8]) 0).run Try.prog W = .ok (u0) W := fun _ _ _ _ _ _ _ _ _ _ => by show _ = _; kernel_rfl
 have HR0_4 := Aside0.mk hr0_4
 have HC0_4 := Aside0.mk hc0_4
 clear hr0_4 hc0_4
 have HR0_5 := Aside0.mk hr0_5
 have HC0_5 := Aside0.mk hc0_5
 clear hr0_5 hc0_5
 have HB := Aside0.mk (Below.refl w.heap.size w)
 have H : ((ops_of.f a0_0).bind fun bt118 => ((ops_typed.f a0_0).bind fun t127 => (if t127 = true then ((ops_Letter.f a0_3).bind fun t128 => (if 1 + t128.size ≤ 9223372036854775807 then (if bt118.1.size + ((⟨#[46]⟩ : ByteArray) ++ t128).size ≤ 9223372036854775807 then (some (bt118.1 ++ ((⟨#[46]⟩ : ByteArray) ++ t128))) else (none)) else (none))) else (some bt118.1)))) = some r := h
 clear h
 replace H := Option.bind_eq_some_iff.mp H
 obtain ⟨⟨t118, t119, t120, t121, t122, t123, t124, t125, t126⟩, A20, H⟩ := H
 replace H : ((ops_typed.f a0_0).bind fun t127 => (if t127 = true then ((ops_Letter.f a0_3).bind fun t128 => (if 1 + t128.size ≤ 9223372036854775807 then (if t118.size + ((⟨#[46]⟩ : ByteArray) ++ t128).size ≤ 9223372036854775807 then (some (t118 ++ ((⟨#[46]⟩ : ByteArray) ++ t128))) else (none)) else (none))) else (some t118))) = some r := H
 have A2 := Aside0.mk A20
 clear A20
 replace H := Option.bind_eq_some_iff.mp H
 obtain ⟨t127, A30, H⟩ := H
 replace H : (if t127 = true then ((ops_Letter.f a0_3).bind fun t128 => (if 1 + t128.size ≤ 9223372036854775807 then (if t118.size + ((⟨#[46]⟩ : ByteArray) ++ t128).size ≤ 9223372036854775807 then (some (t118 ++ ((⟨#[46]⟩ : ByteArray) ++ t128))) else (none)) else (none))) else (some t118)) = some r := H
 have A3 := Aside0.mk A30
 clear A30
 by_cases c4 : t127 = true
 ·subst c4
  have H1 : ((ops_Letter.f a0_3).bind fun t128 => (if 1 + t128.size ≤ 9223372036854775807 then (if t118.size + ((⟨#[46]⟩ : ByteArray) ++ t128).size ≤ 9223372036854775807 then (some (t118 ++ ((⟨#[46]⟩ : ByteArray) ++ t128))) else (none)) else (none))) = some r := by rw [if_pos rfl] at H; exact H
  clear H
  have H := H1
  clear H1
  replace H := Option.bind_eq_some_iff.mp H
  obtain ⟨t128, A50, H⟩ := H
  replace H : (if 1 + t128.size ≤ 9223372036854775807 then (if t118.size + ((⟨#[46]⟩ : ByteArray) ++ t128).size ≤ 9223372036854775807 then (some (t118 ++ ((⟨#[46]⟩ : ByteArray) ++ t128))) else (none)) else (none)) = some r := H
  have A5 := Aside0.mk A50
  clear A50
  by_cases c6 : 1 + t128.size ≤ 9223372036854775807
  ·rw [if_pos c6] at H
   have c6b0 := eq_true c6
   have c6b1 : decide (1 + t128.size ≤ 9223372036854775807) = true := decide_eq_true c6
   try have c6b2 : (9223372036854775807 < 1 + t128.size) = False := eq_false (Nat.not_lt.2 c6)
   by_cases c7 : t118.size + ((⟨#[46]⟩ : ByteArray) ++ t128).size ≤ 9223372036854775807
   ·rw [if_pos c7] at H
    have c7b0 := eq_true c7
    have c7b1 : decide (t118.size + ((⟨#[46]⟩ : ByteArray) ++ t128).size ≤ 9223372036854775807) = true := decide_eq_true c7
    try have c7b2 : (9223372036854775807 < t118.size + ((⟨#[46]⟩ : ByteArray) ++ t128).size) = False := eq_false (Nat.not_lt.2 c7)
    try (have c7b3 := c7b2; simp only [ByteArray.size_append, show ((⟨#[46]⟩ : ByteArray)).size = 1 from rfl] at c7b3)
    obtain rfl := Option.some.inj H
    go_enter Try.func21, Try.ntmps21
    go_wp2_with (first | ((with_reducible refine gate_dst (N := 1) rfl ?_); refine box_event ?hg (N := 1) ?hd (cs := #[.int .i64 a0_0, .int .i64 a0_1, .int .i64 a0_2, .int .i64 a0_3, .slice A0_4 l0_4.length c0_4, .slice A0_5 l0_5.length c0_5, .string a0_6, .int .i64 a0_7]) (t := 48) ?hr ?_; (case hd => rfl); (case hg => rfl); (case hr => first | (go_simp; done) | (go_simp; rfl)); intro gb117 hg w8 hbox hb; have n0_ := Aside0.mk (below_step (zB HB.out) hb); have n1_ := Aside0.mk (hbox); have n2_ := Aside0.mk ((by rw [hg]; exact (below_size (zB HB.out)) : w.heap.size ≤ gb117)); have n3_ := Aside0.mk ((by rw [hg]; exact (below_size (zB HB.out)) : w.heap.size ≤ gb117)); clear HB; have HB := n0_; have BK117 := n1_; have GW117 := n2_; have GE117 := n3_; clear n0_ n1_ n2_ n3_; clear hb hbox hg; have hcz9_0 : w8.cell? ⟨gb117, 0, none⟩ = some (.int .i64 a0_0) := (blk_cell BK117.out 0).trans rfl; have hcz9_1 : w8.cell? ⟨gb117, 1, none⟩ = some (.int .i64 a0_1) := (blk_cell BK117.out 1).trans rfl; have hcz9_2 : w8.cell? ⟨gb117, 2, none⟩ = some (.int .i64 a0_2) := (blk_cell BK117.out 2).trans rfl; have hcz9_3 : w8.cell? ⟨gb117, 3, none⟩ = some (.int .i64 a0_3) := (blk_cell BK117.out 3).trans rfl; have hcz9_4 : w8.cell? ⟨gb117, 4, none⟩ = some (.slice A0_4 l0_4.length c0_4) := (blk_cell BK117.out 4).trans rfl; have hcz9_5 : w8.cell? ⟨gb117, 5, none⟩ = some (.slice A0_5 l0_5.length c0_5) := (blk_cell BK117.out 5).trans rfl; have hcz9_6 : w8.cell? ⟨gb117, 6, none⟩ = some (.string a0_6) := (blk_cell BK117.out 6).trans rfl; have hcz9_7 : w8.cell? ⟨gb117, 7, none⟩ = some (.int .i64 a0_7) := (blk_cell BK117.out 7).trans rfl; have hfz9_0 := blk_frozen BK117.out 0; have hfz9_1 := blk_frozen BK117.out 1; have hfz9_2 := blk_frozen BK117.out 2; have hfz9_3 := blk_frozen BK117.out 3; have hfz9_4 := blk_frozen BK117.out 4; have hfz9_5 := blk_frozen BK117.out 5; have hfz9_6 := blk_frozen BK117.out 6; have hfz9_7 := blk_frozen BK117.out 7) | ((with_reducible refine gate_callee (f := 45) rfl ?_); refine goesL_ (some 6) rfl rfl Try.func45 (by kernel_rfl) rfl #[.int .i64 a0_0] rfl zA ?_; (with_reducible refine (ops_of.calls a0_0 t118 t119 t120 t121 t122 t123 t124 t125 t126 _ A2.out).mono ?_); rintro e w10 ⟨rfl, hb⟩; refine ⟨_, rfl, ?_⟩; have n0_ := Aside0.mk (blk_below (g := gb117) (o := .cells #[.int .i64 a0_0, .int .i64 a0_1, .int .i64 a0_2, .int .i64 a0_3, .slice A0_4 l0_4.length c0_4, .slice A0_5 l0_5.length c0_5, .string a0_6, .int .i64 a0_7] 48 (0, 0)) (zK BK117.out) hb); have n1_ := Aside0.mk (below_step (zC HB.out GE117.out) hb); clear BK117; clear HB; have BK117 := n0_; have HB := n1_; clear n0_ n1_; (try clear hb); (try clear hb2); (try clear hk); (try clear hi); have hcz11_0 : w10.cell? ⟨gb117, 0, none⟩ = some (.int .i64 a0_0) := (blk_cell BK117.out 0).trans rfl; have hcz11_1 : w10.cell? ⟨gb117, 1, none⟩ = some (.int .i64 a0_1) := (blk_cell BK117.out 1).trans rfl; have hcz11_2 : w10.cell? ⟨gb117, 2, none⟩ = some (.int .i64 a0_2) := (blk_cell BK117.out 2).trans rfl; have hcz11_3 : w10.cell? ⟨gb117, 3, none⟩ = some (.int .i64 a0_3) := (blk_cell BK117.out 3).trans rfl; have hcz11_4 : w10.cell? ⟨gb117, 4, none⟩ = some (.slice A0_4 l0_4.length c0_4) := (blk_cell BK117.out 4).trans rfl; have hcz11_5 : w10.cell? ⟨gb117, 5, none⟩ = some (.slice A0_5 l0_5.length c0_5) := (blk_cell BK117.out 5).trans rfl; have hcz11_6 : w10.cell? ⟨gb117, 6, none⟩ = some (.string a0_6) := (blk_cell BK117.out 6).trans rfl; have hcz11_7 : w10.cell? ⟨gb117, 7, none⟩ = some (.int .i64 a0_7) := (blk_cell BK117.out 7).trans rfl; have hfz11_0 := blk_frozen BK117.out 0; have hfz11_1 := blk_frozen BK117.out 1; have hfz11_2 := blk_frozen BK117.out 2; have hfz11_3 := blk_frozen BK117.out 3; have hfz11_4 := blk_frozen BK117.out 4; have hfz11_5 := blk_frozen BK117.out 5; have hfz11_6 := blk_frozen BK117.out 6; have hfz11_7 := blk_frozen BK117.out 7) | ((with_reducible refine gate_callee (f := 46) rfl ?_); refine goesL_ (some 10) rfl rfl Try.func46 (by kernel_rfl) rfl #[.int .i64 a0_0] rfl zA ?_; (with_reducible refine (ops_typed.calls a0_0 true _ A3.out).mono ?_); rintro e w' ⟨rfl, ⟨nd, rfl⟩⟩; refine ⟨_, rfl, ?_⟩) | ((with_reducible refine gate_callee (f := 47) rfl ?_); refine goesL_ (some 14) rfl rfl Try.func47 (by kernel_rfl) rfl #[.int .i64 a0_3] rfl zA ?_; (with_reducible refine (ops_Letter.calls a0_3 t128 _ A5.out).mono ?_); rintro e w' ⟨rfl, ⟨nd, rfl⟩⟩; refine ⟨_, rfl, ?_⟩))
    go_ret
    exact ⟨zF, zC HB.out GE117.out⟩
   ·rw [if_neg c7] at H
    exact absurd H (by simp)
  ·rw [if_neg c6] at H
   exact absurd H (by simp)
 ·replace c4 := Bool.eq_false_iff.mpr c4
  subst c4
  have H1 : (some t118) = some r := by rw [if_neg (show ¬ (false = true) by decide)] at H; exact H
  clear H
  have H := H1
  clear H1
  obtain rfl := Option.some.inj H
  go_enter Try.func21, Try.ntmps21
  go_wp2_with (first | ((with_reducible refine gate_dst (N := 1) rfl ?_); refine box_event ?hg (N := 1) ?hd (cs := #[.int .i64 a0_0, .int .i64 a0_1, .int .i64 a0_2, .int .i64 a0_3, .slice A0_4 l0_4.length c0_4, .slice A0_5 l0_5.length c0_5, .string a0_6, .int .i64 a0_7]) (t := 48) ?hr ?_; (case hd => rfl); (case hg => rfl); (case hr => first | (go_simp; done) | (go_simp; rfl)); intro gb117 hg w12 hbox hb; have n0_ := Aside0.mk (below_step (zB HB.out) hb); have n1_ := Aside0.mk (hbox); have n2_ := Aside0.mk ((by rw [hg]; exact (below_size (zB HB.out)) : w.heap.size ≤ gb117)); have n3_ := Aside0.mk ((by rw [hg]; exact (below_size (zB HB.out)) : w.heap.size ≤ gb117)); clear HB; have HB := n0_; have BK117 := n1_; have GW117 := n2_; have GE117 := n3_; clear n0_ n1_ n2_ n3_; clear hb hbox hg; have hcz13_0 : w12.cell? ⟨gb117, 0, none⟩ = some (.int .i64 a0_0) := (blk_cell BK117.out 0).trans rfl; have hcz13_1 : w12.cell? ⟨gb117, 1, none⟩ = some (.int .i64 a0_1) := (blk_cell BK117.out 1).trans rfl; have hcz13_2 : w12.cell? ⟨gb117, 2, none⟩ = some (.int .i64 a0_2) := (blk_cell BK117.out 2).trans rfl; have hcz13_3 : w12.cell? ⟨gb117, 3, none⟩ = some (.int .i64 a0_3) := (blk_cell BK117.out 3).trans rfl; have hcz13_4 : w12.cell? ⟨gb117, 4, none⟩ = some (.slice A0_4 l0_4.length c0_4) := (blk_cell BK117.out 4).trans rfl; have hcz13_5 : w12.cell? ⟨gb117, 5, none⟩ = some (.slice A0_5 l0_5.length c0_5) := (blk_cell BK117.out 5).trans rfl; have hcz13_6 : w12.cell? ⟨gb117, 6, none⟩ = some (.string a0_6) := (blk_cell BK117.out 6).trans rfl; have hcz13_7 : w12.cell? ⟨gb117, 7, none⟩ = some (.int .i64 a0_7) := (blk_cell BK117.out 7).trans rfl; have hfz13_0 := blk_frozen BK117.out 0; have hfz13_1 := blk_frozen BK117.out 1; have hfz13_2 := blk_frozen BK117.out 2; have hfz13_3 := blk_frozen BK117.out 3; have hfz13_4 := blk_frozen BK117.out 4; have hfz13_5 := blk_frozen BK117.out 5; have hfz13_6 := blk_frozen BK117.out 6; have hfz13_7 := blk_frozen BK117.out 7) | ((with_reducible refine gate_callee (f := 45) rfl ?_); refine goesL_ (some 6) rfl rfl Try.func45 (by kernel_rfl) rfl #[.int .i64 a0_0] rfl zA ?_; (with_reducible refine (ops_of.calls a0_0 t118 t119 t120 t121 t122 t123 t124 t125 t126 _ A2.out).mono ?_); rintro e w14 ⟨rfl, hb⟩; refine ⟨_, rfl, ?_⟩; have n0_ := Aside0.mk (blk_below (g := gb117) (o := .cells #[.int .i64 a0_0, .int .i64 a0_1, .int .i64 a0_2, .int .i64 a0_3, .slice A0_4 l0_4.length c0_4, .slice A0_5 l0_5.length c0_5, .string a0_6, .int .i64 a0_7] 48 (0, 0)) (zK BK117.out) hb); have n1_ := Aside0.mk (below_step (zC HB.out GE117.out) hb); clear BK117; clear HB; have BK117 := n0_; have HB := n1_; clear n0_ n1_; (try clear hb); (try clear hb2); (try clear hk); (try clear hi); have hcz15_0 : w14.cell? ⟨gb117, 0, none⟩ = some (.int .i64 a0_0) := (blk_cell BK117.out 0).trans rfl; have hcz15_1 : w14.cell? ⟨gb117, 1, none⟩ = some (.int .i64 a0_1) := (blk_cell BK117.out 1).trans rfl; have hcz15_2 : w14.cell? ⟨gb117, 2, none⟩ = some (.int .i64 a0_2) := (blk_cell BK117.out 2).trans rfl; have hcz15_3 : w14.cell? ⟨gb117, 3, none⟩ = some (.int .i64 a0_3) := (blk_cell BK117.out 3).trans rfl; have hcz15_4 : w14.cell? ⟨gb117, 4, none⟩ = some (.slice A0_4 l0_4.length c0_4) := (blk_cell BK117.out 4).trans rfl; have hcz15_5 : w14.cell? ⟨gb117, 5, none⟩ = some (.slice A0_5 l0_5.length c0_5) := (blk_cell BK117.out 5).trans rfl; have hcz15_6 : w14.cell? ⟨gb117, 6, none⟩ = some (.string a0_6) := (blk_cell BK117.out 6).trans rfl; have hcz15_7 : w14.cell? ⟨gb117, 7, none⟩ = some (.int .i64 a0_7) := (blk_cell BK117.out 7).trans rfl; have hfz15_0 := blk_frozen BK117.out 0; have hfz15_1 := blk_frozen BK117.out 1; have hfz15_2 := blk_frozen BK117.out 2; have hfz15_3 := blk_frozen BK117.out 3; have hfz15_4 := blk_frozen BK117.out 4; have hfz15_5 := blk_frozen BK117.out 5; have hfz15_6 := blk_frozen BK117.out 6; have hfz15_7 := blk_frozen BK117.out 7) | ((with_reducible refine gate_callee (f := 46) rfl ?_); refine goesL_ (some 10) rfl rfl Try.func46 (by kernel_rfl) rfl #[.int .i64 a0_0] rfl zA ?_; (with_reducible refine (ops_typed.calls a0_0 false _ A3.out).mono ?_); rintro e w' ⟨rfl, ⟨nd, rfl⟩⟩; refine ⟨_, rfl, ?_⟩))
  go_ret
  exact ⟨zF, zC HB.out GE117.out⟩
def listing_Word.f (a0 : Int) : Option (ByteArray) := if a0 = 30 then (some (⟨#[109, 111, 118, 101]⟩ : ByteArray)) else (if a0 = 21 then (some (⟨#[99, 97, 108, 108]⟩ : ByteArray)) else (if a0 = 20 then (some (⟨#[]⟩ : ByteArray)) else (if a0 = 24 then (some (⟨#[]⟩ : ByteArray)) else ((ops_Word.f a0 0 0 0 ([] : List Int) ([] : List Int) (⟨#[]⟩ : ByteArray) 0).bind fun t129 => (some t129)))))
set_option maxHeartbeats 8000000 in
set_option maxRecDepth 100000 in
theorem listing_Word.calls (a0 : Int) (r : ByteArray) (w : World) (h : listing_Word.f a0 = some r) :
  Calls Try.prog 10 #[.int .i64 a0] w fun e w' => e = .returned (.string r) ∧ Below w.heap.size w w' := by
 have hu48 := Try.underlying48
 have HB := Aside0.mk (Below.refl w.heap.size w)
 have H : (if a0 = 30 then (some (⟨#[109, 111, 118, 101]⟩ : ByteArray)) else (if a0 = 21 then (some (⟨#[99, 97, 108, 108]⟩ : ByteArray)) else (if a0 = 20 then (some (⟨#[]⟩ : ByteArray)) else (if a0 = 24 then (some (⟨#[]⟩ : ByteArray)) else ((ops_Word.f a0 0 0 0 ([] : List Int) ([] : List Int) (⟨#[]⟩ : ByteArray) 0).bind fun t129 => (some t129)))))) = some r := h
 clear h
 by_cases c2 : a0 = 30
 ·rw [if_pos c2] at H
  have c2b0 : (a0 == 30) = true := beq_iff_eq.mpr c2
  have c2b1 : (a0 != 30) = false := bne_eq_false_iff_eq.mpr c2
  clear c2
  obtain rfl := Option.some.inj H
  go_enter Try.func10, Try.ntmps10
  go_wp2
  go_ret
  exact ⟨zF, zB HB.out⟩
 ·rw [if_neg c2] at H
  have c2b0 : (a0 == 30) = false := beq_eq_false_iff_ne.mpr c2
  have c2b1 : (a0 != 30) = true := bne_iff_ne.mpr c2
  by_cases c3 : a0 = 21
  ·rw [if_pos c3] at H
   have c3b0 : (a0 == 21) = true := beq_iff_eq.mpr c3
   have c3b1 : (a0 != 21) = false := bne_eq_false_iff_eq.mpr c3
   clear c3
   obtain rfl := Option.some.inj H
   go_enter Try.func10, Try.ntmps10
   go_wp2
   go_ret
   exact ⟨zF, zB HB.out⟩
  ·rw [if_neg c3] at H
   have c3b0 : (a0 == 21) = false := beq_eq_false_iff_ne.mpr c3
   have c3b1 : (a0 != 21) = true := bne_iff_ne.mpr c3
   by_cases c4 : a0 = 20
   ·rw [if_pos c4] at H
    have c4b0 : (a0 == 20) = true := beq_iff_eq.mpr c4
    have c4b1 : (a0 != 20) = false := bne_eq_false_iff_eq.mpr c4
    clear c4
    obtain rfl := Option.some.inj H
    go_enter Try.func10, Try.ntmps10
    go_wp2
    go_ret
    exact ⟨zF, zB HB.out⟩
   ·rw [if_neg c4] at H
    have c4b0 : (a0 == 20) = false := beq_eq_false_iff_ne.mpr c4
    have c4b1 : (a0 != 20) = true := bne_iff_ne.mpr c4
    by_cases c5 : a0 = 24
    ·rw [if_pos c5] at H
     have c5b0 : (a0 == 24) = true := beq_iff_eq.mpr c5
     have c5b1 : (a0 != 24) = false := bne_eq_false_iff_eq.mpr c5
     clear c5
     obtain rfl := Option.some.inj H
     go_enter Try.func10, Try.ntmps10
     go_wp2
     go_ret
     exact ⟨zF, zB HB.out⟩
    ·rw [if_neg c5] at H
     have c5b0 : (a0 == 24) = false := beq_eq_false_iff_ne.mpr c5
     have c5b1 : (a0 != 24) = true := bne_iff_ne.mpr c5
     replace H := Option.bind_eq_some_iff.mp H
     obtain ⟨t129, A60, H⟩ := H
     replace H : (some t129) = some r := H
     have A6 := Aside0.mk A60
     clear A60
     obtain rfl := Option.some.inj H
     go_enter Try.func10, Try.ntmps10
     go_wp2_with (first | ((with_reducible refine gate_callee (f := 21) rfl ?_); refine goesL_ (some 13) rfl rfl Try.func21 (by kernel_rfl) rfl #[.agg #[.int .i64 a0, .int .i64 0, .int .i64 0, .int .i64 0, .slice none 0 0, .slice none 0 0, .string (⟨#[]⟩ : ByteArray), .int .i64 0]] rfl zA ?_; (refine (ops_Word.calls a0 0 0 0 _ _ ([] : List Int) _ _ ([] : List Int) (⟨#[]⟩ : ByteArray) 0 t129 _ ?side1 ?side2 ?side3 ?side4 A6.out).mono ?_); (case side1 => exact Kd.C_nil _ _); (case side2 => exact Nat.le_refl _); (case side3 => exact Kd.C_nil _ _); (case side4 => exact Nat.le_refl _); rintro e w7 ⟨rfl, hb⟩; refine ⟨_, rfl, ?_⟩; have n0_ := Aside0.mk (below_step (zB HB.out) hb); clear HB; have HB := n0_; clear n0_; (try clear hb); (try clear hb2); (try clear hk); (try clear hi)))
     go_ret
     exact ⟨zF, zB HB.out⟩
end Go.Proofs.Ytkgjbdbhpohkiaa.PLi
end
-- from YtkgjbdbhpohkiaaSplitPure
section
namespace Go.Proofs.Ytkgjbdbhpohkiaa.PLi
open Go.RowKit Go.Proofs.YtkgjbdbhpohkiaaW.PrintWords Go.Proofs.YtkgjbdbhpohkiaaW.PrintLast Go.Proofs.YtkgjbdbhpohkiaaW.PrintMore Go.Proofs.Ytkgjbdbhpohkiaa.Str
set_option linter.unusedVariables false
set_option linter.unusedSimpArgs false
abbrev Tok := S84
def kindR (c : Int) : Int :=
 if c = 32 ∨ c = 9 ∨ c = 10 ∨ c = 13 then 0
 else if c = 40 ∨ c = 41 ∨ c = 123 ∨ c = 125 ∨ c = 61 ∨ c = 58 then 1
 else if (97 ≤ c ∧ c ≤ 122) ∨ (65 ≤ c ∧ c ≤ 90) ∨ (48 ≤ c ∧ c ≤ 57) then 2
 else if c = 46 ∨ c = 37 ∨ c = 64 ∨ c = 45 ∨ c = 95 then 2
 else if c = 35 then 3 else 4
def closeW (s : ByteArray) (fr : Int) (i : Nat) (out : List Tok) : List Tok := if fr < 0 then out else out ++ [⟨s.extract fr.toNat i, fr⟩]
def splitGo (s : ByteArray) : List UInt8 → Nat → Int → Bool → List Tok → List Tok × Int × Int
 | [], i, fr, _, out => (closeW s fr i out, 0, 0)
 | c :: l, i, fr, noted, out =>
  if noted = true then splitGo s l (i + 1) fr ((c.toNat : Int) != 10) out
  else if kindR c.toNat = 0 then splitGo s l (i + 1) (-1) false (closeW s fr i out)
  else if kindR c.toNat = 1 then splitGo s l (i + 1) (-1) false (closeW s fr i out ++ [⟨mk [c], i⟩])
  else if kindR c.toNat = 2 then splitGo s l (i + 1) (if fr < 0 then i else fr) false out
  else if kindR c.toNat = 3 then splitGo s l (i + 1) (-1) true (closeW s fr i out)
  else ([], 1, i)
def splitL (s : ByteArray) : List Tok × Int × Int := if 65536 < s.size then ([], 6, 65536) else splitGo s s.data.toList 0 (-1) false []
def token_Split.f (a0 : ByteArray) : Option (List Tok × Int × Int) := some (splitL a0)
theorem kind_high (c : Int) (h : 128 ≤ c) : kindR c = 4 := by
 unfold kindR
 rw [if_neg (by omega), if_neg (by omega), if_neg (by omega), if_neg (by omega), if_neg (by omega)]
theorem splitGo_note (s : ByteArray) (i : Nat) (fr : Int) (out : List Tok) : ∀ (n : Nat) (l : List UInt8), n ≤ l.length → (∀ j, (h : j < l.length) → j < n → (l[j]).toNat ≠ 10) → splitGo s l i fr true out = splitGo s (l.drop n) (i + n) fr true out := by
 intro n
 induction n generalizing i with
 | zero => intro l _ _; rfl
 | succ n ih =>
  intro l hl h
  cases l with
  | nil => simp at hl
  | cons c l =>
   have h0 := h 0 (by simp) (by omega)
   simp only [List.getElem_cons_zero] at h0
   have hb : ((c.toNat : Int) != 10) = true := by rw [bne_iff_ne]; omega
   rw [splitGo, if_pos rfl, hb, ih (i + 1) l (by simpa using hl) (fun j hj hjn => by have h9 := h (j + 1) (by simpa using hj) (by omega); rw [List.getElem_cons_succ] at h9; exact h9), List.drop_succ_cons]
   congr 1
   omega
theorem get_bang (s : ByteArray) (i : Nat) (h : i < s.size) : s.get! i = s.data.toList[i]'h := by
 have h2 : i < s.data.size := h
 simp [ByteArray.get!, getElem!_pos s.data i h2]
theorem decode_bytes (s : ByteArray) (p : Nat) (h : p < s.size) (hh : 128 ≤ (s.get! p).toNat) :
  1 ≤ (Utf8.decode s p).2 ∧ p + (Utf8.decode s p).2 ≤ s.size ∧ ∀ j, j < (Utf8.decode s p).2 → 128 ≤ (s.get! (p + j)).toNat := by
 have hn : ¬ (s.get! p).toNat < 128 := by omega
 have key : ∀ (n : Nat), (n = 1 ∨ (n = 2 ∧ p + 1 < s.size ∧ (s.get! (p + 1)).toNat / 64 = 2) ∨ (n = 3 ∧ (p + 1 < s.size ∧ (s.get! (p + 1)).toNat / 64 = 2) ∧ (p + 2 < s.size ∧ (s.get! (p + 2)).toNat / 64 = 2)) ∨ (n = 4 ∧ (p + 1 < s.size ∧ (s.get! (p + 1)).toNat / 64 = 2) ∧ (p + 2 < s.size ∧ (s.get! (p + 2)).toNat / 64 = 2) ∧ (p + 3 < s.size ∧ (s.get! (p + 3)).toNat / 64 = 2))) →
   1 ≤ n ∧ p + n ≤ s.size ∧ ∀ j, j < n → 128 ≤ (s.get! (p + j)).toNat := by
  intro n hc
  refine ⟨by omega, by omega, fun j hj => ?_⟩
  have hj4 : j = 0 ∨ j = 1 ∨ j = 2 ∨ j = 3 := by omega
  rcases hj4 with rfl | rfl | rfl | rfl
  ·exact hh
  ·omega
  ·omega
  ·omega
 apply key
 simp only [Utf8.decode, Nat.add_zero, if_neg hn]
 repeat' split
 all_goals simp_all
theorem at_pos (s : ByteArray) (p : Nat) (h : p < s.size) : (s[p]'h) = s.data.toList[p]'h := by
 simp [ByteArray.getElem_eq_getElem_data]
theorem split_drop (s : ByteArray) (p : Nat) (h : p < s.size) : s.data.toList.drop p = (s.data.toList[p]'h) :: s.data.toList.drop (p + 1) := List.drop_eq_getElem_cons h
theorem rune_ascii (s : ByteArray) (p : Nat) (h : p < s.size) (hc : (s.data.toList[p]'h).toNat < 128) : (Utf8.decode s p).2 = 1 ∧ (Utf8.decode s p).1 = (s.data.toList[p]'h).toNat := by
 have := decode_ascii s p h (by rw [at_pos]; exact hc)
 rw [this, at_pos]
 exact ⟨rfl, rfl⟩
theorem rune_high (s : ByteArray) (p : Nat) (h : p < s.size) (hc : 128 ≤ (s.data.toList[p]'h).toNat) : 128 ≤ (Utf8.decode s p).1 :=
 (decode_high s p h (by rw [at_pos]; exact hc)).1
theorem rune_le (s : ByteArray) (p : Nat) (h : p < s.size) : 1 ≤ (Utf8.decode s p).2 ∧ p + (Utf8.decode s p).2 ≤ s.size := by
 by_cases hc : (s.data.toList[p]'h).toNat < 128
 ·rw [(rune_ascii s p h hc).1]; omega
 ·have := decode_bytes s p h (by rw [get_bang s p h]; omega)
  exact ⟨this.1, this.2.1⟩
theorem step_note (s : ByteArray) (p : Nat) (h : p < s.size) (fr : Int) (out : List Tok) :
  splitGo s (s.data.toList.drop p) p fr true out = splitGo s (s.data.toList.drop (p + (Utf8.decode s p).2)) (p + (Utf8.decode s p).2) fr (((Utf8.decode s p).1 : Int) != 10) out := by
 by_cases hc : (s.data.toList[p]'h).toNat < 128
 ·obtain ⟨h1, h2⟩ := rune_ascii s p h hc
  rw [h1, h2, split_drop s p h, splitGo, if_pos rfl]
 ·have h1 := rune_high s p h (by omega)
  obtain ⟨h2, h3, h4⟩ := decode_bytes s p h (by rw [get_bang s p h]; omega)
  have hb : (((Utf8.decode s p).1 : Int) != 10) = true := by rw [bne_iff_ne]; omega
  have hsz : s.size = s.data.toList.length := rfl
  rw [hb, splitGo_note s p fr out (Utf8.decode s p).2 (s.data.toList.drop p) (by rw [List.length_drop]; omega) (fun j hj hjn => ?_), List.drop_drop]
  have := h4 j hjn
  rw [get_bang s (p + j) (by omega)] at this
  rw [List.getElem_drop]
  omega
theorem rune_kind (s : ByteArray) (p : Nat) (h : p < s.size) (hk : kindR ((Utf8.decode s p).1 : Int) ≠ 4) : (Utf8.decode s p).2 = 1 ∧ (Utf8.decode s p).1 = (s.data.toList[p]'h).toNat := by
 by_cases hc : (s.data.toList[p]'h).toNat < 128
 ·exact rune_ascii s p h hc
 ·exact absurd (kind_high _ (by have := rune_high s p h (by omega); omega)) hk
theorem step_other (s : ByteArray) (p : Nat) (h : p < s.size) (fr : Int) (out : List Tok) (hk : kindR ((Utf8.decode s p).1 : Int) = 4) : splitGo s (s.data.toList.drop p) p fr false out = (([], 1, (p : Int)) : List Tok × Int × Int) := by
 have hc : kindR ((s.data.toList[p]'h).toNat : Int) = 4 := by
  by_cases hc : (s.data.toList[p]'h).toNat < 128
  ·rw [(rune_ascii s p h hc).2] at hk; exact hk
  ·exact kind_high _ (by omega)
 rw [split_drop s p h, splitGo, if_neg (by simp), hc]
 simp
theorem kindR_cases (c : Int) : kindR c = 0 ∨ kindR c = 1 ∨ kindR c = 2 ∨ kindR c = 3 ∨ kindR c = 4 := by
 unfold kindR
 repeat' split
 all_goals simp
theorem closeW_len (s : ByteArray) (fr : Int) (i : Nat) (out : List Tok) : (closeW s fr i out).length ≤ out.length + (if fr < 0 then 0 else 1) := by
 unfold closeW
 split <;> simp
end Go.Proofs.Ytkgjbdbhpohkiaa.PLi
end
-- from YtkgjbdbhpohkiaaHSplitEnd
section
namespace Go.Proofs.Ytkgjbdbhpohkiaa.PLi
open Go.RowKit Go.Proofs.YtkgjbdbhpohkiaaW.PrintWords Go.Proofs.YtkgjbdbhpohkiaaW.PrintLast Go.Proofs.YtkgjbdbhpohkiaaW.PrintMore Go.Proofs.Ytkgjbdbhpohkiaa.Str
set_option linter.unusedVariables false
set_option linter.unusedSimpArgs false
theorem infoTok : (Try.prog.info? 84).map (fun i => (i.zero, i.size, i.bytes)) = some (some (.agg #[(.string ⟨#[]⟩), (.int .i64 0)]), 2, 24) := by kernel_rfl
def Stays (w w' : World) (a b : Nat) (r : Option Nat) : Prop := w.heap.size ≤ w'.heap.size ∧ ∀ k, k < w.heap.size → k ≠ a → k ≠ b → some k ≠ r → w'.heap[k]? = w.heap[k]?
theorem setCell_size (w : World) (p : Addr) (u : Value) : w.heap.size ≤ (w.setCell p u).heap.size := by simp
theorem end_post {bf bo B : Nat} {v v1 : Value} {fr : Int} {out out1 : List S84} {w0 w w1 : World} (hf : w.heap[bf]? = some (.cells #[.int .i64 fr] 3 (0, 0))) (ho : w.heap[bo]? = some (.cells #[v] 62 (0, 0)))
  (hv : Kd.R k84 84 w B (fun _ => True) v out) (hB : B ≤ bf ∧ B ≤ bo) (h1 : Kd.R k84 84 w1 B (fun _ => True) v1 out1) (hb1 : Below B w0 w1) (hg1 : w.drew.grownBy w1 v.ownBlock) :
  ∃ v', ((w1.setCell ⟨bo, 0, none⟩ v1).setCell ⟨bf, 0, none⟩ (.int .i64 (-1))).heap[bf]? = some (.cells #[.int .i64 (-1)] 3 (0, 0)) ∧ ((w1.setCell ⟨bo, 0, none⟩ v1).setCell ⟨bf, 0, none⟩ (.int .i64 (-1))).heap[bo]? = some (.cells #[v'] 62 (0, 0)) ∧
   Kd.R k84 84 ((w1.setCell ⟨bo, 0, none⟩ v1).setCell ⟨bf, 0, none⟩ (.int .i64 (-1))) B (fun _ => True) v' out1 ∧ Below B w0 ((w1.setCell ⟨bo, 0, none⟩ v1).setCell ⟨bf, 0, none⟩ (.int .i64 (-1))) ∧ Stays w ((w1.setCell ⟨bo, 0, none⟩ v1).setCell ⟨bf, 0, none⟩ (.int .i64 (-1))) bf bo v.ownBlock := by
 have hne : bf ≠ bo := blk_ne hf ho (by decide)
 have hf1 := blk_grown (blk_drew hf) hg1 (Kd.R_ne hv hf (by decide))
 have ho1 := blk_grown (blk_drew ho) hg1 (Kd.R_ne hv ho (by decide))
 have hf2 := blk_far hf1 (p := ⟨bo, 0, none⟩) hne v1
 have ho2 : (w1.setCell ⟨bo, 0, none⟩ v1).heap[bo]? = some (.cells #[v1] 62 (0, 0)) := by simpa using blk_set ho1 0 v1
 refine ⟨v1, by simpa using blk_set hf2 0 (.int .i64 (-1)), blk_far ho2 (p := ⟨bf, 0, none⟩) (Ne.symm hne) _, Kd.R_set (Kd.R_set h1 ho1 (by decide) 0 _) hf2 (by decide) 0 _, (hb1.setCell hB.2 _).setCell hB.1 _, ?_, fun k hk hkf hko hkr => ?_⟩
 ·refine Nat.le_trans ?_ (Nat.le_trans (setCell_size w1 ⟨bo, 0, none⟩ v1) (setCell_size _ _ _))
  exact hg1.size
 ·rw [Below.heap_setCell _ _ _ _ hkf, Below.heap_setCell _ _ _ _ hko]
  exact hg1.block k hk hkr
set_option maxHeartbeats 1000000 in
set_option maxRecDepth 100000 in
theorem split_end (s : ByteArray) (fr : Int) (i B bf bo bt : Nat) (v : Value) (out : List S84) (w0 w : World)
  (hf : w.heap[bf]? = some (.cells #[.int .i64 fr] 3 (0, 0))) (ho : w.heap[bo]? = some (.cells #[v] 62 (0, 0))) (ht : w.heap[bt]? = some (.cells #[.string s] 9 (0, 0)))
  (hv : Kd.R k84 84 w B (fun _ => True) v out) (hb : Below B w0 w) (hB : B ≤ bf ∧ B ≤ bo) (hs : s.size ≤ 65536) (hi : i ≤ s.size) (hfr : 0 ≤ fr) (hfi : fr ≤ i) (hl : out.length ≤ 65536) :
  Calls Try.prog 53 #[.int .i64 i, .pointer (some ⟨bf, 0, none⟩), .pointer (some ⟨bo, 0, none⟩), .pointer (some ⟨bt, 0, none⟩)] w fun e w' =>
   e = .returned (.tuple #[]) ∧ ∃ v', w'.heap[bf]? = some (.cells #[.int .i64 (-1)] 3 (0, 0)) ∧ w'.heap[bo]? = some (.cells #[v'] 62 (0, 0)) ∧
    Kd.R k84 84 w' B (fun _ => True) v' (closeW s fr i out) ∧ Below B w0 w' ∧ Stays w w' bf bo v.ownBlock := by
 have hcf : w.cell? ⟨bf, 0, none⟩ = some (.int .i64 fr) := (blk_cell hf 0).trans rfl
 have hco : w.cell? ⟨bo, 0, none⟩ = some v := (blk_cell ho 0).trans rfl
 have hct : w.cell? ⟨bt, 0, none⟩ = some (.string s) := (blk_cell ht 0).trans rfl
 have hzf : w.frozen? ⟨bf, 0, none⟩ = false := blk_frozen hf 0
 have hzo : w.frozen? ⟨bo, 0, none⟩ = false := blk_frozen ho 0
 have HF := Aside0.mk hf
 have HO := Aside0.mk ho
 have HT := Aside0.mk ht
 have HV := Aside0.mk hv
 have HB := Aside0.mk hb
 clear hf ho ht hv hb
 have hlt1 : bf < w.heap.size := blk_lt HF.out
 have hlt2 : bo < w.heap.size := blk_lt HO.out
 have hlt3 : bt < w.heap.size := blk_lt HT.out
 go_enter Try.func53, Try.ntmps53
 go_wp2
 go_region_law (refine Kd.R_append_step k84 (w0 := w0) (W := w.drew) B (by rfl) (.tmp 7) (.tmp 14) 62 84 (.agg #[(.string ⟨#[]⟩), (.int .i64 0)]) 24 rfl Try.underlying62 infoTok rfl (by decide) (by omega) v out (⟨s.extract fr.toNat i, fr⟩ : S84) [.string (s.extract fr.toNat i), .int .i64 fr] (fun _ => True) (fun _ => False) rfl rfl (k84_mkM _ _ _ (⟨s.extract fr.toNat i, fr⟩ : S84)) (fun _ hk => hk.elim) (fun _ _ => trivial) (Kd.R_drew HV.out) (below_drew HB.out) (Nat.le_trans hB.1 (Nat.le_of_lt hlt1)) (by omega) ?_; intro v1 w1 ho1 hb1 hg1 hat1; obtain ⟨A1, q1, rfl⟩ := Kd.R_slice ho1; have HO1 := Aside0.mk ho1; have HB1 := Aside0.mk hb1; have HG1 := Aside0.mk hg1; have c1 : w1.cell? ⟨bo, 0, none⟩ = some v := (blk_cell (blk_grown (blk_drew HO.out) hg1 (Kd.R_ne HV.out HO.out (by decide))) 0).trans rfl; have z1 : w1.frozen? ⟨bo, 0, none⟩ = false := blk_frozen (blk_grown (blk_drew HO.out) hg1 (Kd.R_ne HV.out HO.out (by decide))) 0; have hne : bf ≠ bo := blk_ne HF.out HO.out (by decide); have c2 : w1.cell? ⟨bf, 0, none⟩ = some (.int .i64 fr) := (blk_cell (blk_grown (blk_drew HF.out) hg1 (Kd.R_ne HV.out HF.out (by decide))) 0).trans rfl; have z2 : w1.frozen? ⟨bf, 0, none⟩ = false := blk_frozen (blk_grown (blk_drew HF.out) hg1 (Kd.R_ne HV.out HF.out (by decide))) 0; clear ho1 hb1 hg1 hat1)
 all_goals
  go_wp2
  go_end0
  refine ⟨rfl, ?_⟩
  have hcl : closeW s fr i out = out ++ [⟨s.extract fr.toNat i, fr⟩] := by unfold closeW; rw [if_neg (by omega)]
  rw [hcl]
  have hlen : out.length + 1 = (out ++ [(⟨s.extract fr.toNat i, fr⟩ : S84)]).length := by simp
  rw [hlen]
  exact end_post HF.out HO.out HV.out hB HO1.out HB1.out HG1.out
set_option maxHeartbeats 1000000 in
set_option maxRecDepth 100000 in
theorem split_end_no (fr : Int) (i B bf bo bt : Nat) (s : ByteArray) (v : Value) (out : List S84) (w0 w : World)
  (hf : w.heap[bf]? = some (.cells #[.int .i64 fr] 3 (0, 0))) (ho : w.heap[bo]? = some (.cells #[v] 62 (0, 0)))
  (hv : Kd.R k84 84 w B (fun _ => True) v out) (hb : Below B w0 w) (hB : B ≤ bf ∧ B ≤ bo) (hfr : fr < 0) :
  Calls Try.prog 53 #[.int .i64 i, .pointer (some ⟨bf, 0, none⟩), .pointer (some ⟨bo, 0, none⟩), .pointer (some ⟨bt, 0, none⟩)] w fun e w' =>
   e = .returned (.tuple #[]) ∧ ∃ v', w'.heap[bf]? = some (.cells #[.int .i64 (-1)] 3 (0, 0)) ∧ w'.heap[bo]? = some (.cells #[v'] 62 (0, 0)) ∧
    Kd.R k84 84 w' B (fun _ => True) v' (closeW s fr i out) ∧ Below B w0 w' ∧ Stays w w' bf bo v.ownBlock := by
 have hcf : w.cell? ⟨bf, 0, none⟩ = some (.int .i64 fr) := (blk_cell hf 0).trans rfl
 have hzf : w.frozen? ⟨bf, 0, none⟩ = false := blk_frozen hf 0
 have hd : decide (0 ≤ fr) = false := decide_eq_false (by omega)
 have HF := Aside0.mk hf
 have HO := Aside0.mk ho
 have HV := Aside0.mk hv
 have HB := Aside0.mk hb
 clear hf ho hv hb
 go_enter Try.func53, Try.ntmps53
 go_wp2
 go_end0
 refine ⟨rfl, v, by simpa using blk_set HF.out 0 (.int .i64 (-1)), blk_far HO.out (p := ⟨bf, 0, none⟩) (Ne.symm (blk_ne HF.out HO.out (by decide))) _, ?_, HB.out.setCell hB.1 _, setCell_size _ _ _, fun k hk hkf hko hkr => Below.heap_setCell _ _ _ _ hkf⟩
 have hcl : closeW s fr i out = out := by unfold closeW; rw [if_pos hfr]
 rw [hcl]
 exact Kd.R_set HV.out HF.out (by decide) 0 _
theorem split_any (s : ByteArray) (fr : Int) (i B bf bo bt : Nat) (v : Value) (out : List S84) (w0 w : World)
  (hf : w.heap[bf]? = some (.cells #[.int .i64 fr] 3 (0, 0))) (ho : w.heap[bo]? = some (.cells #[v] 62 (0, 0))) (ht : w.heap[bt]? = some (.cells #[.string s] 9 (0, 0)))
  (hv : Kd.R k84 84 w B (fun _ => True) v out) (hb : Below B w0 w) (hB : B ≤ bf ∧ B ≤ bo) (hs : s.size ≤ 65536) (hi : i ≤ s.size) (hfr : fr = -1 ∨ 0 ≤ fr ∧ fr ≤ i) (hl : out.length ≤ 65536) :
  Calls Try.prog 53 #[.int .i64 i, .pointer (some ⟨bf, 0, none⟩), .pointer (some ⟨bo, 0, none⟩), .pointer (some ⟨bt, 0, none⟩)] w fun e w' =>
   e = .returned (.tuple #[]) ∧ ∃ v', w'.heap[bf]? = some (.cells #[.int .i64 (-1)] 3 (0, 0)) ∧ w'.heap[bo]? = some (.cells #[v'] 62 (0, 0)) ∧
    Kd.R k84 84 w' B (fun _ => True) v' (closeW s fr i out) ∧ Below B w0 w' ∧ Stays w w' bf bo v.ownBlock := by
 rcases hfr with h | ⟨h1, h2⟩
 ·exact split_end_no fr i B bf bo bt s v out w0 w hf ho hv hb hB (by omega)
 ·exact split_end s fr i B bf bo bt v out w0 w hf ho ht hv hb hB hs hi h1 h2 hl
end Go.Proofs.Ytkgjbdbhpohkiaa.PLi
end
