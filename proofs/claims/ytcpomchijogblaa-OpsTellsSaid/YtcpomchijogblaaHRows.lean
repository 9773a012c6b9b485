/- The program's table of operations (ops.rows), and what it tells of one (ops.of). -/
import Derived.Test.YtcpomchijogblaaPOpx0
import Derived.Test.YtcpomchijogblaaStr
import Derived.Deep.WholeRow
import Derived.KernelRfl
namespace Go.Proofs.Ytcpomchijogblaa.POp
open Go.RowKit Go.Proofs.YtcpomchijogblaaW.PrintWords Go.Proofs.YtcpomchijogblaaW.PrintLast Go.Proofs.YtcpomchijogblaaW.PrintMore Go.Proofs.Ytcpomchijogblaa.Str
set_option linter.unusedVariables false
set_option linter.unusedSimpArgs false

/-- What is known of an operation. -/
structure OpRow where
  w : ByteArray
  t0 : Int
  t1 : Int
  m : Int
  traps : Bool
  reads : Bool
  writes : Bool
  seen : Bool
  ends : Bool

def noRow : OpRow := ⟨mk [], 0, 0, 0, false, false, false, false, false⟩
def opRows : List OpRow := [
  ⟨mk [], 0, 0, 0, false, false, false, false, false⟩,
  ⟨mk [99, 111, 110, 115, 116], 0, 0, 1, false, false, false, false, false⟩,
  ⟨mk [97, 100, 100], 1, 1, 1, false, false, false, false, false⟩,
  ⟨mk [115, 117, 98], 1, 1, 1, false, false, false, false, false⟩,
  ⟨mk [109, 117, 108], 1, 1, 1, false, false, false, false, false⟩,
  ⟨mk [100, 105, 118], 1, 1, 1, true, false, false, false, false⟩,
  ⟨mk [108, 116], 1, 1, 1, false, false, false, false, false⟩,
  ⟨mk [101, 113], 1, 1, 1, false, false, false, false, false⟩,
  ⟨mk [110, 105, 108], 0, 0, 2, false, false, false, false, false⟩,
  ⟨mk [115, 97, 109, 101], 2, 2, 1, false, false, false, false, false⟩,
  ⟨mk [110, 101, 119], 0, 0, 2, false, false, false, false, false⟩,
  ⟨mk [108, 111, 97, 100, 46, 105], 2, 0, 1, true, true, false, false, false⟩,
  ⟨mk [108, 111, 97, 100, 46, 112], 2, 0, 2, true, true, false, false, false⟩,
  ⟨mk [115, 116, 111, 114, 101, 46, 105], 2, 1, 0, true, false, true, true, false⟩,
  ⟨mk [115, 116, 111, 114, 101, 46, 112], 2, 2, 0, true, false, true, true, false⟩,
  ⟨mk [115, 108, 111, 116], 2, 0, 3, true, false, false, false, false⟩,
  ⟨mk [103, 101, 116, 46, 105], 3, 0, 1, true, true, false, false, false⟩,
  ⟨mk [103, 101, 116, 46, 112], 3, 0, 2, true, true, false, false, false⟩,
  ⟨mk [112, 117, 116, 46, 105], 3, 1, 0, true, false, true, true, false⟩,
  ⟨mk [112, 117, 116, 46, 112], 3, 2, 0, true, false, true, true, false⟩,
  ⟨mk [112, 104, 105], 0, 0, 0, false, false, false, false, false⟩,
  ⟨mk [99, 97, 108, 108], 0, 0, 0, true, true, true, true, false⟩,
  ⟨mk [111, 117, 116], 1, 0, 0, false, false, false, true, false⟩,
  ⟨mk [112, 111, 108, 108], 0, 0, 0, false, false, false, true, false⟩,
  ⟨mk [114, 101, 108, 111, 99], 0, 0, 0, false, false, false, false, false⟩,
  ⟨mk [109, 97, 114, 107], 2, 0, 0, false, false, false, true, false⟩,
  ⟨mk [98, 114], 0, 0, 0, false, false, false, true, true⟩,
  ⟨mk [105, 102], 1, 0, 0, false, false, false, true, true⟩,
  ⟨mk [114, 101, 116], 0, 0, 0, false, false, false, true, true⟩,
  ⟨mk [102, 97, 105, 108], 0, 0, 0, true, false, false, true, true⟩]

def rowCells (r : OpRow) : List Value := [.string r.w, .int .i64 r.t0, .int .i64 r.t1, .int .i64 r.m, .bool r.traps, .bool r.reads, .bool r.writes, .bool r.seen, .bool r.ends]
def rowsV : Array Value := (opRows.flatMap rowCells).toArray
def zerosV : Array Value := ((List.replicate 30 noRow).flatMap rowCells).toArray

theorem wpList_buildTo1 {P : Program} {ops : Array Oper} {rest : List Oper} {o : Oper} {a : Act} {w : World} {Q : Exit → Act → World → Prop} (hg : o.guard = none) (t : TypeId) (parts : Array (Nat × Operand)) (ho : o.op = .build t parts) (cells : Array Value)
    (hf : P.built t (parts.map fun (i, x) => (i, a.eval x)).toList = some cells)
    (h : wpList P ops Q rest (a.put o.dst (.agg cells)) w) : wpList P ops Q (o :: rest) a w := by
  refine wpList_build hg t parts ho ?_ ?_
  · rw [hf]; rfl
  · rw [hf]; exact h

theorem wpList_store_new {P : Program} {ops : Array Oper} {rest : List Oper} {o : Oper} {a : Act} {w : World} {Q : Exit → Act → World → Prop} (hgd : o.guard = none) (ty : TypeId) (x y : Operand) (ho : o.op = .store ty x y)
    (old cells : Array Value) (hx : a.eval x = .pointer (some ⟨w.heap.size, 0, none⟩)) (hy : a.eval y = .agg cells)
    (t : TypeId) (hi : (P.info? ty).map (·.size) = some cells.size) (hold : old.size = cells.size) (h1 : cells.all (·.oneCell') = true)
    (h : wpList P ops Q rest (a.put o.dst undef) (w.alloc (.cells cells t))) : wpList P ops Q (o :: rest) a (w.alloc (.cells old t)) := by
  refine wpList_store_row hgd ty x y ho w.heap.size cells hx hy t old (heap_alloc_last _ _) hi hold h1 ?_
  rw [World.setRow_alloc_new]
  exact h

set_option maxHeartbeats 4000000 in
set_option maxRecDepth 100000 in
theorem ops_rows.calls (w : World) : Calls Try.prog 70 #[] w fun e w' => e = .returned (.agg rowsV) ∧ Below w.heap.size w w' := by
  have hz := (zero_of_info (P := Try.prog) (t := 90) (v := .agg zerosV) (n := 270) (by kernel_rfl)).1
  go_enter Try.func70, Try.ntmps70
  go_wp2_with (first | ((with_reducible refine gate_dst (N := 49) rfl ?_); refine wpList_buildTo1 rfl 90 _ rfl rowsV (by kernel_rfl) ?_) | ((with_reducible refine gate_store (t := 90) (p := 0) (v := .tmp 49) rfl ?_); refine wpList_store_new rfl 90 (.tmp 0) (.tmp 49) rfl zerosV rowsV rfl rfl 90 (by kernel_rfl) (by kernel_rfl) (by kernel_rfl) ?_))
  refine bodyPost_ret (results_single rfl (Vals.cell w.heap.size 90 rowsV (0, 0) _ rfl (blk_new w _) Try.underlying90 rfl (by kernel_rfl) Vals.nil)) rfl ⟨rfl, below_alloc (Below.refl _ _) _⟩
end Go.Proofs.Ytcpomchijogblaa.POp
