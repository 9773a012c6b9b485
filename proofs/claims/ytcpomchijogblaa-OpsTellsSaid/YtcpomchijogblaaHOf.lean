/- What the program's ops.of tells of an operation: a row of its table; of another number nothing. -/
import Derived.Test.YtcpomchijogblaaHRows
import Derived.Laws.CopyOwn
namespace Go.Proofs.Ytcpomchijogblaa.POp
open Go.RowKit Go.Proofs.YtcpomchijogblaaW.PrintWords Go.Proofs.YtcpomchijogblaaW.PrintLast Go.Proofs.YtcpomchijogblaaW.PrintMore Go.Proofs.Ytcpomchijogblaa.Str
set_option linter.unusedVariables false
set_option linter.unusedSimpArgs false

theorem opRows_len : opRows.length = 30 := rfl

theorem run_index_rows (n : Nat) (hn : n < 30) (w : World) : (Instr.index 90 (.agg rowsV) (.int .i64 n)).run Try.prog w = .ok (.agg (rowCells (opRows.getD n noRow)).toArray) w := by
  have h : n = 0 ∨ n = 1 ∨ n = 2 ∨ n = 3 ∨ n = 4 ∨ n = 5 ∨ n = 6 ∨ n = 7 ∨ n = 8 ∨ n = 9 ∨ n = 10 ∨ n = 11 ∨ n = 12 ∨ n = 13 ∨ n = 14 ∨ n = 15 ∨ n = 16 ∨ n = 17 ∨ n = 18 ∨ n = 19 ∨ n = 20 ∨ n = 21 ∨ n = 22 ∨ n = 23 ∨ n = 24 ∨ n = 25 ∨ n = 26 ∨ n = 27 ∨ n = 28 ∨ n = 29 := by omega
  rcases h with rfl | rfl | rfl | rfl | rfl | rfl | rfl | rfl | rfl | rfl | rfl | rfl | rfl | rfl | rfl | rfl | rfl | rfl | rfl | rfl | rfl | rfl | rfl | rfl | rfl | rfl | rfl | rfl | rfl | rfl <;> (show _ = _; kernel_rfl)

/-- What is known of an operation. -/
def opOf (op : Int) : OpRow := if op < 1 ∨ 29 < op then noRow else opRows.getD op.toNat noRow

def ops_of.f (a0 : Int) : Option (ByteArray × Int × Int × Int × Bool × Bool × Bool × Bool × Bool) :=
  some ((opOf a0).w, (opOf a0).t0, (opOf a0).t1, (opOf a0).m, (opOf a0).traps, (opOf a0).reads, (opOf a0).writes, (opOf a0).seen, (opOf a0).ends)

set_option maxHeartbeats 4000000 in
set_option maxRecDepth 100000 in
theorem of_calls (a0 : Int) (w : World) : Calls Try.prog 65 #[.int .i64 a0] w fun e w' => e = .returned (.agg (rowCells (opOf a0)).toArray) ∧ Below w.heap.size w w' := by
  by_cases h1 : a0 < 1
  · have d1 : decide (a0 < 1) = true := decide_eq_true h1
    have e : opOf a0 = noRow := if_pos (.inl h1)
    rw [e]
    clear e h1
    go_enter Try.func65, Try.ntmps65
    go_wp2
    refine bodyPost_ret (results_single rfl (Vals.cell w.heap.size 87 (rowCells noRow).toArray (0, 0) _ rfl (blk_new w _) Try.underlying87 rfl (by kernel_rfl) Vals.nil)) rfl ⟨rfl, below_alloc (Below.refl _ _) _⟩
  · have d1 : decide (a0 < 1) = false := decide_eq_false h1
    by_cases h2 : 29 < a0
    · have d2 : decide (29 < a0) = true := decide_eq_true h2
      have e : opOf a0 = noRow := if_pos (.inr h2)
      rw [e]
      clear e h1 h2
      go_enter Try.func65, Try.ntmps65
      go_wp2
      refine bodyPost_ret (results_single rfl (Vals.cell w.heap.size 87 (rowCells noRow).toArray (0, 0) _ rfl (blk_new w _) Try.underlying87 rfl (by kernel_rfl) Vals.nil)) rfl ⟨rfl, below_alloc (Below.refl _ _) _⟩
    · have d2 : decide (29 < a0) = false := decide_eq_false h2
      obtain ⟨n, rfl⟩ : ∃ n : Nat, a0 = n := ⟨a0.toNat, by omega⟩
      have hn : n < 30 := by omega
      obtain ⟨r, hr⟩ : ∃ r, opRows.getD n noRow = r := ⟨_, rfl⟩
      have hix : ∀ W, (Instr.index 90 (.agg rowsV) (.int .i64 n)).run Try.prog W = .ok (.agg (rowCells r).toArray) W := fun W => hr ▸ run_index_rows n hn W
      have e : opOf (n : Int) = opRows.getD n noRow := if_neg (by omega)
      rw [e, hr]
      clear e h1 h2 hr
      go_enter Try.func65, Try.ntmps65
      go_wp2_with fail
      refine (ops_rows.calls _).mono ?_
      rintro e w1 ⟨rfl, hb⟩
      have HB := Aside0.mk hb
      have h1 := blk_below (blk_new w (.cells #[.string ⟨#[]⟩, .int .i64 0, .int .i64 0, .int .i64 0, .bool false, .bool false, .bool false, .bool false, .bool false] 87)) hb
      have H1 := Aside0.mk h1
      have HB := Aside0.mk (below_step (below_alloc (Below.refl _ _) _) hb)
      clear h1 hb
      go_wp2_with (first | ((with_reducible refine gate_store (t := 87) (p := 2) (v := .tmp 12) rfl ?_); refine wpList_store_row rfl 87 (.tmp 2) (.tmp 12) rfl w.heap.size (rowCells r).toArray rfl rfl 87 _ H1.out (by kernel_rfl) rfl (by simp [rowCells, Value.oneCell']) ?_))
      refine bodyPost_ret (results_single rfl (Vals.cell w.heap.size 87 (rowCells r).toArray (0, 0) _ rfl (setRow_heap _ _ _ _ _ _ H1.out) Try.underlying87 rfl (by kernel_rfl) Vals.nil)) rfl ⟨rfl, below_setRow HB.out (Nat.le_refl _) _⟩

theorem ops_of.calls (a0 : Int) (r1 : ByteArray) (r2 r3 r4 : Int) (r5 r6 r7 r8 r9 : Bool) (w : World) (h : ops_of.f a0 = some (r1, r2, r3, r4, r5, r6, r7, r8, r9)) :
    Calls Try.prog 65 #[.int .i64 a0] w fun e w' => e = .returned (.agg #[.string r1, .int .i64 r2, .int .i64 r3, .int .i64 r4, .bool r5, .bool r6, .bool r7, .bool r8, .bool r9]) ∧ Below w.heap.size w w' := by
  have h0 := Option.some.inj h
  simp only [Prod.mk.injEq] at h0
  obtain ⟨rfl, rfl, rfl, rfl, rfl, rfl, rfl, rfl, rfl⟩ := h0
  exact of_calls a0 w
end Go.Proofs.Ytcpomchijogblaa.POp
