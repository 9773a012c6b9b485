/- pool.Len, pool.Words, pool.Shape; what a pool keeps while other rows are written. -/
import Derived.Test.YtcpomchijogblaaHVisit
namespace Go.Proofs.Ytcpomchijogblaa.PPo
open Go.RowKit Go.Proofs.YtcpomchijogblaaW.PrintWords Go.Proofs.YtcpomchijogblaaW.PrintLast Go.Proofs.YtcpomchijogblaaW.PrintMore Go.Proofs.Ytcpomchijogblaa.Str
set_option linter.unusedVariables false
set_option linter.unusedSimpArgs false

section
variable {lo : Nat} {ok : Nat → Prop} {g : Nat} {v : Value} {bs : List Nat} {L : List S73} {n : Int}
theorem PoolD.typed {W W' : World} (h : PoolD lo ok W g v bs L n) (hk : VisKept W W') : PoolD lo ok W' g v bs L n where
  top := (hk _ _ _ h.top (by decide) (by decide) (by decide)).trans h.top
  ge := h.ge
  okg := h.okg
  row := Kd.R_mono (Kd.R_move (Kd.R_bound h.row) (fun k hh => by
    obtain ⟨-, -, -, q, hq, cells, hc⟩ := hh
    rw [List.mem_singleton.1 hq] at hc
    exact hk _ _ _ hc (by decide) (by decide) (by decide))) (fun _ hh => hh.1)
  len := h.len
  nod := h.nod
  ob := h.ob
  slots := fun i hi => by
    obtain ⟨h1, h2, h3⟩ := h.slots i hi
    exact ⟨h1, h2, (hk _ _ _ h3 (by decide) (by decide) (by decide)).trans h3⟩
set_option maxHeartbeats 2000000 in
theorem pool_Len.calls (w : World) (hP : PoolD lo ok w g v bs L n) : Calls Try.prog 19 #[.pointer (some ⟨g, 0, none⟩)] w fun e w' => e = .returned (.int .i64 (L.length : Int)) ∧ w' = w := by
  have hu70 := Try.underlying70
  obtain ⟨A, c, rfl, hlc, hC⟩ := hP.objs
  have cg : w.cell? ⟨g, 0, none⟩ = some (.slice A L.length c) := (blk_cell hP.top 0).trans rfl
  clear hP hlc hC
  go_enter Try.func19, Try.ntmps19
  go_wp2
  go_ret
  exact ⟨rfl, rfl⟩
set_option maxHeartbeats 2000000 in
theorem pool_Words.calls (w : World) (hP : PoolD lo ok w g v bs L n) : Calls Try.prog 24 #[.pointer (some ⟨g, 0, none⟩)] w fun e w' => e = .returned (.int .i64 n) ∧ w' = w := by
  have hu70 := Try.underlying70
  have cg : w.cell? ⟨g, 1, none⟩ = some (.int .i64 n) := (blk_cell hP.top 1).trans rfl
  clear hP
  go_enter Try.func24, Try.ntmps24
  go_wp2
  go_ret
  exact ⟨rfl, rfl⟩
/-- What pool.Shape answers. -/
def shapeP (L : List S73) (id : Int) : S31 := if id < 1 ∨ (L.length : Int) < id then ⟨0, 0⟩ else (L.getD (id - 1).toNat z73).f0
set_option maxHeartbeats 4000000 in
set_option maxRecDepth 100000 in
theorem pool_Shape.calls (id : Int) (w : World) (hP : PoolD lo ok w g v bs L n) : Calls Try.prog 16 #[.pointer (some ⟨g, 0, none⟩), .int .i64 id] w fun e w' => e = .returned (.agg #[.int .i64 (shapeP L id).f0, .int .i64 (shapeP L id).f1]) ∧ Below w.heap.size w w' := by
  have hu70 := Try.underlying70
  have hu73 := Try.underlying73
  have hu31 := Try.underlying31
  obtain ⟨A, c, rfl, hlc, hC⟩ := hP.objs
  have cg : (w.alloc (.cells #[.int .i64 0, .int .i64 0] 31)).cell? ⟨g, 0, none⟩ = some (.slice A L.length c) := (blk_cell (blk_alloc hP.top _) 0).trans rfl
  have bg := blk_new w (.cells #[.int .i64 0, .int .i64 0] 31)
  by_cases h1 : id < 1
  · have d1 : decide (id < 1) = true := decide_eq_true h1
    have e1 : shapeP L id = ⟨0, 0⟩ := if_pos (.inl h1)
    rw [e1]
    clear hP hlc hC h1 e1
    go_enter Try.func16, Try.ntmps16
    go_wp2_with fail
    exact bodyPost_ret (results_single rfl (Vals.cell w.heap.size 31 #[.int .i64 0, .int .i64 0] (0, 0) _ rfl (blk_new w _) Try.underlying31 rfl (by kernel_rfl) Vals.nil)) rfl ⟨rfl, below_alloc (Below.refl _ _) _⟩
  · have d1 : decide (id < 1) = false := decide_eq_false h1
    by_cases h2 : (L.length : Int) < id
    · have d2 : decide ((L.length : Int) < id) = true := decide_eq_true h2
      have e1 : shapeP L id = ⟨0, 0⟩ := if_pos (.inr h2)
      rw [e1]
      clear hP hlc hC h1 h2 e1
      go_enter Try.func16, Try.ntmps16
      go_wp2_with fail
      exact bodyPost_ret (results_single rfl (Vals.cell w.heap.size 31 #[.int .i64 0, .int .i64 0] (0, 0) _ rfl (blk_new w _) Try.underlying31 rfl (by kernel_rfl) Vals.nil)) rfl ⟨rfl, below_alloc (Below.refl _ _) _⟩
    · have d2 : decide ((L.length : Int) < id) = false := decide_eq_false h2
      have e1 : shapeP L id = (L.getD (id - 1).toNat z73).f0 := if_neg (by omega)
      rw [e1]
      obtain ⟨i, hi⟩ : ∃ i : Int, id - 1 = i := ⟨_, rfl⟩
      have hlt : i.toNat < L.length := by omega
      have hiw : IntKind.i64.wrap (id - 1) = i := (i64_w _).trans ((w64 (by omega) (by have := hC.2.1; omega)).trans hi)
      have d3 : (0 ≤ i ∧ i < (L.length : Int)) = True := eq_true ⟨by omega, by omega⟩
      have hO := at_O (Kd.C_below hC (below_alloc (Below.refl _ _) (.cells #[.int .i64 0, .int .i64 0] 31))) i (by omega) (by omega)
      rw [raw_get L bs hP.len i.toNat hlt] at hO
      rw [hi]
      generalize L.getD i.toNat z73 = x at hO ⊢
      obtain ⟨ad, rfl, o0, o1, -⟩ := hO
      clear hP hlc hC h1 h2 e1 hlt hi
      go_enter Try.func16, Try.ntmps16
      go_wp2_with (first | ((with_reducible refine gate_store (t := 31) (p := 4) (v := .tmp 25) rfl ?_); refine wpList_store_new rfl 31 (.tmp 4) (.tmp 25) rfl #[.int .i64 0, .int .i64 0] #[.int .i64 x.f0.f0, .int .i64 x.f0.f1] rfl rfl 31 (by kernel_rfl) rfl (by rfl) ?_))
      exact bodyPost_ret (results_single rfl (Vals.cell w.heap.size 31 #[.int .i64 x.f0.f0, .int .i64 x.f0.f1] (0, 0) _ rfl (blk_new w _) Try.underlying31 rfl (by kernel_rfl) Vals.nil)) rfl ⟨rfl, below_alloc (Below.refl _ _) _⟩
end
end Go.Proofs.Ytcpomchijogblaa.PPo
