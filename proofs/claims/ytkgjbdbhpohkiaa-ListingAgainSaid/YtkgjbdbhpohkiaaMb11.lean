import Derived.Test.YtkgjbdbhpohkiaaMb10
import Derived.WalkSpells
import Derived.Lib.OthersKept
section
/- What the program's code.pieces answers: what stands behind an operation, piece by piece; nil of a number that is none of code. -/
namespace Go.Proofs.Ytkgjbdbhpohkiaa.PLi
open Go.RowKit Go.Proofs.YtkgjbdbhpohkiaaW.PrintWords Go.Proofs.YtkgjbdbhpohkiaaW.PrintLast Go.Proofs.YtkgjbdbhpohkiaaW.PrintMore
set_option linter.unusedVariables false
set_option linter.unusedSimpArgs false


/-- A slice that is nil just where it is empty, held against nil. -/
theorem nilEq {α : Type} {P : Program} {w' w : World} {t e : TypeId} (hu : P.underlying t = some (.slice e)) {d : Kd α} {A : Option Addr} {xs : List α} {c base T : Nat} (h : Kd.R d T w base (fun _ => xs.length ≠ 0) (.slice A xs.length c) xs) :
    (binOp .eql t (.slice A xs.length c) (.slice none 0 0)).run P w' = .ok (.bool (xs.length == 0)) w' := by
  refine (Go.Lib.run_eql_slice_nil w' t e A _ _ _ _ hu).trans ?_
  congr 2
  by_cases hl : xs.length = 0
  · rw [hl]
    cases A with
    | none => rfl
    | some a => exact absurd hl (h.1 a.block rfl)
  · have e0 : (xs.length == 0) = false := beq_eq_false_iff_ne.mpr hl
    rw [e0]
    cases A with
    | none =>
      obtain ⟨ad, e, _⟩ := (Kd.R_reads' h).2.2.2.2 (by omega)
      cases e
    | some a => rfl

def piecesL (op : Int) : List Int := if op = 1 then [0, 4] else if op = 2 ∨ op = 3 ∨ op = 4 ∨ op = 5 ∨ op = 6 ∨ op = 7 ∨ op = 9 then [0, 1, 2] else if op = 8 then [0] else if op = 10 then [0, 3] else if op = 11 ∨ op = 12 ∨ op = 15 then [0, 1, 3] else if op = 13 ∨ op = 14 then [1, 2, 3] else if op = 16 ∨ op = 17 ∨ op = 30 then [0, 1] else if op = 18 ∨ op = 19 then [1, 2] else if op = 21 then [0, 1, 3, 5] else if op = 22 ∨ op = 25 ∨ op = 28 then [1] else if op = 23 ∨ op = 29 then [3] else if op = 26 then [6] else if op = 27 then [1, 7] else []

def code_pieces.f (a0 : Int) : Option (List Int) := some (piecesL a0)

def PiecesPost (w : World) (xs : List Int) (e : Ending) (w' : World) : Prop := ∃ v0_ : Value, e = .returned (v0_) ∧ Kd.R (Kd.int .i64) 3 w' w.heap.size (fun _ => xs.length ≠ 0) v0_ xs ∧ Below w.heap.size w w'

theorem pieces_1 (w : World) : Calls Try.prog 85 #[.int .i64 1] w (PiecesPost w [0, 4]) := by
  go_enter Try.func85, Try.ntmps85
  go_wp2_with ((with_reducible refine gate_dst (N := 6) rfl ?_); refine Kd.R_lit (Kd.int .i64) _ 3 ?hg (N := 6) ?hd (xs := ([0, 4] : List Int)) (inner := [.int .i64 0, .int .i64 4]) (ok := fun _ => True) (okp := fun _ => True) ?hr ?hp (fun _ hk => hk) trivial (Below.refl _ _) (Nat.le_refl _) (by simp) ?_; (case hd => rfl); (case hg => rfl); (case hr => first | (go_simp; done) | (go_simp; rfl)); (case hp => exact (Reps.one (show Kd.M (Kd.int .i64) _ _ _ 0 [.int .i64 0] from rfl) (Reps.one (show Kd.M (Kd.int .i64) _ _ _ 4 [.int .i64 4] from rfl) (Reps.none _ _)))); intro v1 w3 ho4 hb hg_ hnew_; clear hg_ hnew_; have HO := Aside0.mk ho4; have HB := Aside0.mk hb; clear ho4 hb)
  go_ret
  exact ⟨_, rfl, Kd.R_mono HO.out (fun _ _ => by decide), HB.out⟩

theorem pieces_2 (w : World) : Calls Try.prog 85 #[.int .i64 2] w (PiecesPost w [0, 1, 2]) := by
  go_enter Try.func85, Try.ntmps85
  go_wp2_with ((with_reducible refine gate_dst (N := 15) rfl ?_); refine Kd.R_lit (Kd.int .i64) _ 3 ?hg (N := 15) ?hd (xs := ([0, 1, 2] : List Int)) (inner := [.int .i64 0, .int .i64 1, .int .i64 2]) (ok := fun _ => True) (okp := fun _ => True) ?hr ?hp (fun _ hk => hk) trivial (Below.refl _ _) (Nat.le_refl _) (by simp) ?_; (case hd => rfl); (case hg => rfl); (case hr => first | (go_simp; done) | (go_simp; rfl)); (case hp => exact (Reps.one (show Kd.M (Kd.int .i64) _ _ _ 0 [.int .i64 0] from rfl) (Reps.one (show Kd.M (Kd.int .i64) _ _ _ 1 [.int .i64 1] from rfl) (Reps.one (show Kd.M (Kd.int .i64) _ _ _ 2 [.int .i64 2] from rfl) (Reps.none _ _))))); intro v1 w3 ho4 hb hg_ hnew_; clear hg_ hnew_; have HO := Aside0.mk ho4; have HB := Aside0.mk hb; clear ho4 hb)
  go_ret
  exact ⟨_, rfl, Kd.R_mono HO.out (fun _ _ => by decide), HB.out⟩

theorem pieces_3 (w : World) : Calls Try.prog 85 #[.int .i64 3] w (PiecesPost w [0, 1, 2]) := by
  go_enter Try.func85, Try.ntmps85
  go_wp2_with ((with_reducible refine gate_dst (N := 15) rfl ?_); refine Kd.R_lit (Kd.int .i64) _ 3 ?hg (N := 15) ?hd (xs := ([0, 1, 2] : List Int)) (inner := [.int .i64 0, .int .i64 1, .int .i64 2]) (ok := fun _ => True) (okp := fun _ => True) ?hr ?hp (fun _ hk => hk) trivial (Below.refl _ _) (Nat.le_refl _) (by simp) ?_; (case hd => rfl); (case hg => rfl); (case hr => first | (go_simp; done) | (go_simp; rfl)); (case hp => exact (Reps.one (show Kd.M (Kd.int .i64) _ _ _ 0 [.int .i64 0] from rfl) (Reps.one (show Kd.M (Kd.int .i64) _ _ _ 1 [.int .i64 1] from rfl) (Reps.one (show Kd.M (Kd.int .i64) _ _ _ 2 [.int .i64 2] from rfl) (Reps.none _ _))))); intro v1 w3 ho4 hb hg_ hnew_; clear hg_ hnew_; have HO := Aside0.mk ho4; have HB := Aside0.mk hb; clear ho4 hb)
  go_ret
  exact ⟨_, rfl, Kd.R_mono HO.out (fun _ _ => by decide), HB.out⟩

theorem pieces_4 (w : World) : Calls Try.prog 85 #[.int .i64 4] w (PiecesPost w [0, 1, 2]) := by
  go_enter Try.func85, Try.ntmps85
  go_wp2_with ((with_reducible refine gate_dst (N := 15) rfl ?_); refine Kd.R_lit (Kd.int .i64) _ 3 ?hg (N := 15) ?hd (xs := ([0, 1, 2] : List Int)) (inner := [.int .i64 0, .int .i64 1, .int .i64 2]) (ok := fun _ => True) (okp := fun _ => True) ?hr ?hp (fun _ hk => hk) trivial (Below.refl _ _) (Nat.le_refl _) (by simp) ?_; (case hd => rfl); (case hg => rfl); (case hr => first | (go_simp; done) | (go_simp; rfl)); (case hp => exact (Reps.one (show Kd.M (Kd.int .i64) _ _ _ 0 [.int .i64 0] from rfl) (Reps.one (show Kd.M (Kd.int .i64) _ _ _ 1 [.int .i64 1] from rfl) (Reps.one (show Kd.M (Kd.int .i64) _ _ _ 2 [.int .i64 2] from rfl) (Reps.none _ _))))); intro v1 w3 ho4 hb hg_ hnew_; clear hg_ hnew_; have HO := Aside0.mk ho4; have HB := Aside0.mk hb; clear ho4 hb)
  go_ret
  exact ⟨_, rfl, Kd.R_mono HO.out (fun _ _ => by decide), HB.out⟩

theorem pieces_5 (w : World) : Calls Try.prog 85 #[.int .i64 5] w (PiecesPost w [0, 1, 2]) := by
  go_enter Try.func85, Try.ntmps85
  go_wp2_with ((with_reducible refine gate_dst (N := 15) rfl ?_); refine Kd.R_lit (Kd.int .i64) _ 3 ?hg (N := 15) ?hd (xs := ([0, 1, 2] : List Int)) (inner := [.int .i64 0, .int .i64 1, .int .i64 2]) (ok := fun _ => True) (okp := fun _ => True) ?hr ?hp (fun _ hk => hk) trivial (Below.refl _ _) (Nat.le_refl _) (by simp) ?_; (case hd => rfl); (case hg => rfl); (case hr => first | (go_simp; done) | (go_simp; rfl)); (case hp => exact (Reps.one (show Kd.M (Kd.int .i64) _ _ _ 0 [.int .i64 0] from rfl) (Reps.one (show Kd.M (Kd.int .i64) _ _ _ 1 [.int .i64 1] from rfl) (Reps.one (show Kd.M (Kd.int .i64) _ _ _ 2 [.int .i64 2] from rfl) (Reps.none _ _))))); intro v1 w3 ho4 hb hg_ hnew_; clear hg_ hnew_; have HO := Aside0.mk ho4; have HB := Aside0.mk hb; clear ho4 hb)
  go_ret
  exact ⟨_, rfl, Kd.R_mono HO.out (fun _ _ => by decide), HB.out⟩

theorem pieces_6 (w : World) : Calls Try.prog 85 #[.int .i64 6] w (PiecesPost w [0, 1, 2]) := by
  go_enter Try.func85, Try.ntmps85
  go_wp2_with ((with_reducible refine gate_dst (N := 15) rfl ?_); refine Kd.R_lit (Kd.int .i64) _ 3 ?hg (N := 15) ?hd (xs := ([0, 1, 2] : List Int)) (inner := [.int .i64 0, .int .i64 1, .int .i64 2]) (ok := fun _ => True) (okp := fun _ => True) ?hr ?hp (fun _ hk => hk) trivial (Below.refl _ _) (Nat.le_refl _) (by simp) ?_; (case hd => rfl); (case hg => rfl); (case hr => first | (go_simp; done) | (go_simp; rfl)); (case hp => exact (Reps.one (show Kd.M (Kd.int .i64) _ _ _ 0 [.int .i64 0] from rfl) (Reps.one (show Kd.M (Kd.int .i64) _ _ _ 1 [.int .i64 1] from rfl) (Reps.one (show Kd.M (Kd.int .i64) _ _ _ 2 [.int .i64 2] from rfl) (Reps.none _ _))))); intro v1 w3 ho4 hb hg_ hnew_; clear hg_ hnew_; have HO := Aside0.mk ho4; have HB := Aside0.mk hb; clear ho4 hb)
  go_ret
  exact ⟨_, rfl, Kd.R_mono HO.out (fun _ _ => by decide), HB.out⟩

theorem pieces_7 (w : World) : Calls Try.prog 85 #[.int .i64 7] w (PiecesPost w [0, 1, 2]) := by
  go_enter Try.func85, Try.ntmps85
  go_wp2_with ((with_reducible refine gate_dst (N := 15) rfl ?_); refine Kd.R_lit (Kd.int .i64) _ 3 ?hg (N := 15) ?hd (xs := ([0, 1, 2] : List Int)) (inner := [.int .i64 0, .int .i64 1, .int .i64 2]) (ok := fun _ => True) (okp := fun _ => True) ?hr ?hp (fun _ hk => hk) trivial (Below.refl _ _) (Nat.le_refl _) (by simp) ?_; (case hd => rfl); (case hg => rfl); (case hr => first | (go_simp; done) | (go_simp; rfl)); (case hp => exact (Reps.one (show Kd.M (Kd.int .i64) _ _ _ 0 [.int .i64 0] from rfl) (Reps.one (show Kd.M (Kd.int .i64) _ _ _ 1 [.int .i64 1] from rfl) (Reps.one (show Kd.M (Kd.int .i64) _ _ _ 2 [.int .i64 2] from rfl) (Reps.none _ _))))); intro v1 w3 ho4 hb hg_ hnew_; clear hg_ hnew_; have HO := Aside0.mk ho4; have HB := Aside0.mk hb; clear ho4 hb)
  go_ret
  exact ⟨_, rfl, Kd.R_mono HO.out (fun _ _ => by decide), HB.out⟩

theorem pieces_9 (w : World) : Calls Try.prog 85 #[.int .i64 9] w (PiecesPost w [0, 1, 2]) := by
  go_enter Try.func85, Try.ntmps85
  go_wp2_with ((with_reducible refine gate_dst (N := 15) rfl ?_); refine Kd.R_lit (Kd.int .i64) _ 3 ?hg (N := 15) ?hd (xs := ([0, 1, 2] : List Int)) (inner := [.int .i64 0, .int .i64 1, .int .i64 2]) (ok := fun _ => True) (okp := fun _ => True) ?hr ?hp (fun _ hk => hk) trivial (Below.refl _ _) (Nat.le_refl _) (by simp) ?_; (case hd => rfl); (case hg => rfl); (case hr => first | (go_simp; done) | (go_simp; rfl)); (case hp => exact (Reps.one (show Kd.M (Kd.int .i64) _ _ _ 0 [.int .i64 0] from rfl) (Reps.one (show Kd.M (Kd.int .i64) _ _ _ 1 [.int .i64 1] from rfl) (Reps.one (show Kd.M (Kd.int .i64) _ _ _ 2 [.int .i64 2] from rfl) (Reps.none _ _))))); intro v1 w3 ho4 hb hg_ hnew_; clear hg_ hnew_; have HO := Aside0.mk ho4; have HB := Aside0.mk hb; clear ho4 hb)
  go_ret
  exact ⟨_, rfl, Kd.R_mono HO.out (fun _ _ => by decide), HB.out⟩

theorem pieces_8 (w : World) : Calls Try.prog 85 #[.int .i64 8] w (PiecesPost w [0]) := by
  go_enter Try.func85, Try.ntmps85
  go_wp2_with ((with_reducible refine gate_dst (N := 18) rfl ?_); refine Kd.R_lit (Kd.int .i64) _ 3 ?hg (N := 18) ?hd (xs := ([0] : List Int)) (inner := [.int .i64 0]) (ok := fun _ => True) (okp := fun _ => True) ?hr ?hp (fun _ hk => hk) trivial (Below.refl _ _) (Nat.le_refl _) (by simp) ?_; (case hd => rfl); (case hg => rfl); (case hr => first | (go_simp; done) | (go_simp; rfl)); (case hp => exact (Reps.one (show Kd.M (Kd.int .i64) _ _ _ 0 [.int .i64 0] from rfl) (Reps.none _ _))); intro v1 w3 ho4 hb hg_ hnew_; clear hg_ hnew_; have HO := Aside0.mk ho4; have HB := Aside0.mk hb; clear ho4 hb)
  go_ret
  exact ⟨_, rfl, Kd.R_mono HO.out (fun _ _ => by decide), HB.out⟩

theorem pieces_10 (w : World) : Calls Try.prog 85 #[.int .i64 10] w (PiecesPost w [0, 3]) := by
  go_enter Try.func85, Try.ntmps85
  go_wp2_with ((with_reducible refine gate_dst (N := 21) rfl ?_); refine Kd.R_lit (Kd.int .i64) _ 3 ?hg (N := 21) ?hd (xs := ([0, 3] : List Int)) (inner := [.int .i64 0, .int .i64 3]) (ok := fun _ => True) (okp := fun _ => True) ?hr ?hp (fun _ hk => hk) trivial (Below.refl _ _) (Nat.le_refl _) (by simp) ?_; (case hd => rfl); (case hg => rfl); (case hr => first | (go_simp; done) | (go_simp; rfl)); (case hp => exact (Reps.one (show Kd.M (Kd.int .i64) _ _ _ 0 [.int .i64 0] from rfl) (Reps.one (show Kd.M (Kd.int .i64) _ _ _ 3 [.int .i64 3] from rfl) (Reps.none _ _)))); intro v1 w3 ho4 hb hg_ hnew_; clear hg_ hnew_; have HO := Aside0.mk ho4; have HB := Aside0.mk hb; clear ho4 hb)
  go_ret
  exact ⟨_, rfl, Kd.R_mono HO.out (fun _ _ => by decide), HB.out⟩

theorem pieces_11 (w : World) : Calls Try.prog 85 #[.int .i64 11] w (PiecesPost w [0, 1, 3]) := by
  go_enter Try.func85, Try.ntmps85
  go_wp2_with ((with_reducible refine gate_dst (N := 26) rfl ?_); refine Kd.R_lit (Kd.int .i64) _ 3 ?hg (N := 26) ?hd (xs := ([0, 1, 3] : List Int)) (inner := [.int .i64 0, .int .i64 1, .int .i64 3]) (ok := fun _ => True) (okp := fun _ => True) ?hr ?hp (fun _ hk => hk) trivial (Below.refl _ _) (Nat.le_refl _) (by simp) ?_; (case hd => rfl); (case hg => rfl); (case hr => first | (go_simp; done) | (go_simp; rfl)); (case hp => exact (Reps.one (show Kd.M (Kd.int .i64) _ _ _ 0 [.int .i64 0] from rfl) (Reps.one (show Kd.M (Kd.int .i64) _ _ _ 1 [.int .i64 1] from rfl) (Reps.one (show Kd.M (Kd.int .i64) _ _ _ 3 [.int .i64 3] from rfl) (Reps.none _ _))))); intro v1 w3 ho4 hb hg_ hnew_; clear hg_ hnew_; have HO := Aside0.mk ho4; have HB := Aside0.mk hb; clear ho4 hb)
  go_ret
  exact ⟨_, rfl, Kd.R_mono HO.out (fun _ _ => by decide), HB.out⟩

theorem pieces_12 (w : World) : Calls Try.prog 85 #[.int .i64 12] w (PiecesPost w [0, 1, 3]) := by
  go_enter Try.func85, Try.ntmps85
  go_wp2_with ((with_reducible refine gate_dst (N := 26) rfl ?_); refine Kd.R_lit (Kd.int .i64) _ 3 ?hg (N := 26) ?hd (xs := ([0, 1, 3] : List Int)) (inner := [.int .i64 0, .int .i64 1, .int .i64 3]) (ok := fun _ => True) (okp := fun _ => True) ?hr ?hp (fun _ hk => hk) trivial (Below.refl _ _) (Nat.le_refl _) (by simp) ?_; (case hd => rfl); (case hg => rfl); (case hr => first | (go_simp; done) | (go_simp; rfl)); (case hp => exact (Reps.one (show Kd.M (Kd.int .i64) _ _ _ 0 [.int .i64 0] from rfl) (Reps.one (show Kd.M (Kd.int .i64) _ _ _ 1 [.int .i64 1] from rfl) (Reps.one (show Kd.M (Kd.int .i64) _ _ _ 3 [.int .i64 3] from rfl) (Reps.none _ _))))); intro v1 w3 ho4 hb hg_ hnew_; clear hg_ hnew_; have HO := Aside0.mk ho4; have HB := Aside0.mk hb; clear ho4 hb)
  go_ret
  exact ⟨_, rfl, Kd.R_mono HO.out (fun _ _ => by decide), HB.out⟩

theorem pieces_15 (w : World) : Calls Try.prog 85 #[.int .i64 15] w (PiecesPost w [0, 1, 3]) := by
  go_enter Try.func85, Try.ntmps85
  go_wp2_with ((with_reducible refine gate_dst (N := 26) rfl ?_); refine Kd.R_lit (Kd.int .i64) _ 3 ?hg (N := 26) ?hd (xs := ([0, 1, 3] : List Int)) (inner := [.int .i64 0, .int .i64 1, .int .i64 3]) (ok := fun _ => True) (okp := fun _ => True) ?hr ?hp (fun _ hk => hk) trivial (Below.refl _ _) (Nat.le_refl _) (by simp) ?_; (case hd => rfl); (case hg => rfl); (case hr => first | (go_simp; done) | (go_simp; rfl)); (case hp => exact (Reps.one (show Kd.M (Kd.int .i64) _ _ _ 0 [.int .i64 0] from rfl) (Reps.one (show Kd.M (Kd.int .i64) _ _ _ 1 [.int .i64 1] from rfl) (Reps.one (show Kd.M (Kd.int .i64) _ _ _ 3 [.int .i64 3] from rfl) (Reps.none _ _))))); intro v1 w3 ho4 hb hg_ hnew_; clear hg_ hnew_; have HO := Aside0.mk ho4; have HB := Aside0.mk hb; clear ho4 hb)
  go_ret
  exact ⟨_, rfl, Kd.R_mono HO.out (fun _ _ => by decide), HB.out⟩

theorem pieces_13 (w : World) : Calls Try.prog 85 #[.int .i64 13] w (PiecesPost w [1, 2, 3]) := by
  go_enter Try.func85, Try.ntmps85
  go_wp2_with ((with_reducible refine gate_dst (N := 30) rfl ?_); refine Kd.R_lit (Kd.int .i64) _ 3 ?hg (N := 30) ?hd (xs := ([1, 2, 3] : List Int)) (inner := [.int .i64 1, .int .i64 2, .int .i64 3]) (ok := fun _ => True) (okp := fun _ => True) ?hr ?hp (fun _ hk => hk) trivial (Below.refl _ _) (Nat.le_refl _) (by simp) ?_; (case hd => rfl); (case hg => rfl); (case hr => first | (go_simp; done) | (go_simp; rfl)); (case hp => exact (Reps.one (show Kd.M (Kd.int .i64) _ _ _ 1 [.int .i64 1] from rfl) (Reps.one (show Kd.M (Kd.int .i64) _ _ _ 2 [.int .i64 2] from rfl) (Reps.one (show Kd.M (Kd.int .i64) _ _ _ 3 [.int .i64 3] from rfl) (Reps.none _ _))))); intro v1 w3 ho4 hb hg_ hnew_; clear hg_ hnew_; have HO := Aside0.mk ho4; have HB := Aside0.mk hb; clear ho4 hb)
  go_ret
  exact ⟨_, rfl, Kd.R_mono HO.out (fun _ _ => by decide), HB.out⟩

theorem pieces_14 (w : World) : Calls Try.prog 85 #[.int .i64 14] w (PiecesPost w [1, 2, 3]) := by
  go_enter Try.func85, Try.ntmps85
  go_wp2_with ((with_reducible refine gate_dst (N := 30) rfl ?_); refine Kd.R_lit (Kd.int .i64) _ 3 ?hg (N := 30) ?hd (xs := ([1, 2, 3] : List Int)) (inner := [.int .i64 1, .int .i64 2, .int .i64 3]) (ok := fun _ => True) (okp := fun _ => True) ?hr ?hp (fun _ hk => hk) trivial (Below.refl _ _) (Nat.le_refl _) (by simp) ?_; (case hd => rfl); (case hg => rfl); (case hr => first | (go_simp; done) | (go_simp; rfl)); (case hp => exact (Reps.one (show Kd.M (Kd.int .i64) _ _ _ 1 [.int .i64 1] from rfl) (Reps.one (show Kd.M (Kd.int .i64) _ _ _ 2 [.int .i64 2] from rfl) (Reps.one (show Kd.M (Kd.int .i64) _ _ _ 3 [.int .i64 3] from rfl) (Reps.none _ _))))); intro v1 w3 ho4 hb hg_ hnew_; clear hg_ hnew_; have HO := Aside0.mk ho4; have HB := Aside0.mk hb; clear ho4 hb)
  go_ret
  exact ⟨_, rfl, Kd.R_mono HO.out (fun _ _ => by decide), HB.out⟩

theorem pieces_16 (w : World) : Calls Try.prog 85 #[.int .i64 16] w (PiecesPost w [0, 1]) := by
  go_enter Try.func85, Try.ntmps85
  go_wp2_with ((with_reducible refine gate_dst (N := 35) rfl ?_); refine Kd.R_lit (Kd.int .i64) _ 3 ?hg (N := 35) ?hd (xs := ([0, 1] : List Int)) (inner := [.int .i64 0, .int .i64 1]) (ok := fun _ => True) (okp := fun _ => True) ?hr ?hp (fun _ hk => hk) trivial (Below.refl _ _) (Nat.le_refl _) (by simp) ?_; (case hd => rfl); (case hg => rfl); (case hr => first | (go_simp; done) | (go_simp; rfl)); (case hp => exact (Reps.one (show Kd.M (Kd.int .i64) _ _ _ 0 [.int .i64 0] from rfl) (Reps.one (show Kd.M (Kd.int .i64) _ _ _ 1 [.int .i64 1] from rfl) (Reps.none _ _)))); intro v1 w3 ho4 hb hg_ hnew_; clear hg_ hnew_; have HO := Aside0.mk ho4; have HB := Aside0.mk hb; clear ho4 hb)
  go_ret
  exact ⟨_, rfl, Kd.R_mono HO.out (fun _ _ => by decide), HB.out⟩

theorem pieces_17 (w : World) : Calls Try.prog 85 #[.int .i64 17] w (PiecesPost w [0, 1]) := by
  go_enter Try.func85, Try.ntmps85
  go_wp2_with ((with_reducible refine gate_dst (N := 35) rfl ?_); refine Kd.R_lit (Kd.int .i64) _ 3 ?hg (N := 35) ?hd (xs := ([0, 1] : List Int)) (inner := [.int .i64 0, .int .i64 1]) (ok := fun _ => True) (okp := fun _ => True) ?hr ?hp (fun _ hk => hk) trivial (Below.refl _ _) (Nat.le_refl _) (by simp) ?_; (case hd => rfl); (case hg => rfl); (case hr => first | (go_simp; done) | (go_simp; rfl)); (case hp => exact (Reps.one (show Kd.M (Kd.int .i64) _ _ _ 0 [.int .i64 0] from rfl) (Reps.one (show Kd.M (Kd.int .i64) _ _ _ 1 [.int .i64 1] from rfl) (Reps.none _ _)))); intro v1 w3 ho4 hb hg_ hnew_; clear hg_ hnew_; have HO := Aside0.mk ho4; have HB := Aside0.mk hb; clear ho4 hb)
  go_ret
  exact ⟨_, rfl, Kd.R_mono HO.out (fun _ _ => by decide), HB.out⟩

theorem pieces_30 (w : World) : Calls Try.prog 85 #[.int .i64 30] w (PiecesPost w [0, 1]) := by
  go_enter Try.func85, Try.ntmps85
  go_wp2_with ((with_reducible refine gate_dst (N := 35) rfl ?_); refine Kd.R_lit (Kd.int .i64) _ 3 ?hg (N := 35) ?hd (xs := ([0, 1] : List Int)) (inner := [.int .i64 0, .int .i64 1]) (ok := fun _ => True) (okp := fun _ => True) ?hr ?hp (fun _ hk => hk) trivial (Below.refl _ _) (Nat.le_refl _) (by simp) ?_; (case hd => rfl); (case hg => rfl); (case hr => first | (go_simp; done) | (go_simp; rfl)); (case hp => exact (Reps.one (show Kd.M (Kd.int .i64) _ _ _ 0 [.int .i64 0] from rfl) (Reps.one (show Kd.M (Kd.int .i64) _ _ _ 1 [.int .i64 1] from rfl) (Reps.none _ _)))); intro v1 w3 ho4 hb hg_ hnew_; clear hg_ hnew_; have HO := Aside0.mk ho4; have HB := Aside0.mk hb; clear ho4 hb)
  go_ret
  exact ⟨_, rfl, Kd.R_mono HO.out (fun _ _ => by decide), HB.out⟩

theorem pieces_18 (w : World) : Calls Try.prog 85 #[.int .i64 18] w (PiecesPost w [1, 2]) := by
  go_enter Try.func85, Try.ntmps85
  go_wp2_with ((with_reducible refine gate_dst (N := 39) rfl ?_); refine Kd.R_lit (Kd.int .i64) _ 3 ?hg (N := 39) ?hd (xs := ([1, 2] : List Int)) (inner := [.int .i64 1, .int .i64 2]) (ok := fun _ => True) (okp := fun _ => True) ?hr ?hp (fun _ hk => hk) trivial (Below.refl _ _) (Nat.le_refl _) (by simp) ?_; (case hd => rfl); (case hg => rfl); (case hr => first | (go_simp; done) | (go_simp; rfl)); (case hp => exact (Reps.one (show Kd.M (Kd.int .i64) _ _ _ 1 [.int .i64 1] from rfl) (Reps.one (show Kd.M (Kd.int .i64) _ _ _ 2 [.int .i64 2] from rfl) (Reps.none _ _)))); intro v1 w3 ho4 hb hg_ hnew_; clear hg_ hnew_; have HO := Aside0.mk ho4; have HB := Aside0.mk hb; clear ho4 hb)
  go_ret
  exact ⟨_, rfl, Kd.R_mono HO.out (fun _ _ => by decide), HB.out⟩

theorem pieces_19 (w : World) : Calls Try.prog 85 #[.int .i64 19] w (PiecesPost w [1, 2]) := by
  go_enter Try.func85, Try.ntmps85
  go_wp2_with ((with_reducible refine gate_dst (N := 39) rfl ?_); refine Kd.R_lit (Kd.int .i64) _ 3 ?hg (N := 39) ?hd (xs := ([1, 2] : List Int)) (inner := [.int .i64 1, .int .i64 2]) (ok := fun _ => True) (okp := fun _ => True) ?hr ?hp (fun _ hk => hk) trivial (Below.refl _ _) (Nat.le_refl _) (by simp) ?_; (case hd => rfl); (case hg => rfl); (case hr => first | (go_simp; done) | (go_simp; rfl)); (case hp => exact (Reps.one (show Kd.M (Kd.int .i64) _ _ _ 1 [.int .i64 1] from rfl) (Reps.one (show Kd.M (Kd.int .i64) _ _ _ 2 [.int .i64 2] from rfl) (Reps.none _ _)))); intro v1 w3 ho4 hb hg_ hnew_; clear hg_ hnew_; have HO := Aside0.mk ho4; have HB := Aside0.mk hb; clear ho4 hb)
  go_ret
  exact ⟨_, rfl, Kd.R_mono HO.out (fun _ _ => by decide), HB.out⟩

theorem pieces_21 (w : World) : Calls Try.prog 85 #[.int .i64 21] w (PiecesPost w [0, 1, 3, 5]) := by
  go_enter Try.func85, Try.ntmps85
  go_wp2_with ((with_reducible refine gate_dst (N := 42) rfl ?_); refine Kd.R_lit (Kd.int .i64) _ 3 ?hg (N := 42) ?hd (xs := ([0, 1, 3, 5] : List Int)) (inner := [.int .i64 0, .int .i64 1, .int .i64 3, .int .i64 5]) (ok := fun _ => True) (okp := fun _ => True) ?hr ?hp (fun _ hk => hk) trivial (Below.refl _ _) (Nat.le_refl _) (by simp) ?_; (case hd => rfl); (case hg => rfl); (case hr => first | (go_simp; done) | (go_simp; rfl)); (case hp => exact (Reps.one (show Kd.M (Kd.int .i64) _ _ _ 0 [.int .i64 0] from rfl) (Reps.one (show Kd.M (Kd.int .i64) _ _ _ 1 [.int .i64 1] from rfl) (Reps.one (show Kd.M (Kd.int .i64) _ _ _ 3 [.int .i64 3] from rfl) (Reps.one (show Kd.M (Kd.int .i64) _ _ _ 5 [.int .i64 5] from rfl) (Reps.none _ _)))))); intro v1 w3 ho4 hb hg_ hnew_; clear hg_ hnew_; have HO := Aside0.mk ho4; have HB := Aside0.mk hb; clear ho4 hb)
  go_ret
  exact ⟨_, rfl, Kd.R_mono HO.out (fun _ _ => by decide), HB.out⟩

theorem pieces_22 (w : World) : Calls Try.prog 85 #[.int .i64 22] w (PiecesPost w [1]) := by
  go_enter Try.func85, Try.ntmps85
  go_wp2_with ((with_reducible refine gate_dst (N := 47) rfl ?_); refine Kd.R_lit (Kd.int .i64) _ 3 ?hg (N := 47) ?hd (xs := ([1] : List Int)) (inner := [.int .i64 1]) (ok := fun _ => True) (okp := fun _ => True) ?hr ?hp (fun _ hk => hk) trivial (Below.refl _ _) (Nat.le_refl _) (by simp) ?_; (case hd => rfl); (case hg => rfl); (case hr => first | (go_simp; done) | (go_simp; rfl)); (case hp => exact (Reps.one (show Kd.M (Kd.int .i64) _ _ _ 1 [.int .i64 1] from rfl) (Reps.none _ _))); intro v1 w3 ho4 hb hg_ hnew_; clear hg_ hnew_; have HO := Aside0.mk ho4; have HB := Aside0.mk hb; clear ho4 hb)
  go_ret
  exact ⟨_, rfl, Kd.R_mono HO.out (fun _ _ => by decide), HB.out⟩

theorem pieces_25 (w : World) : Calls Try.prog 85 #[.int .i64 25] w (PiecesPost w [1]) := by
  go_enter Try.func85, Try.ntmps85
  go_wp2_with ((with_reducible refine gate_dst (N := 47) rfl ?_); refine Kd.R_lit (Kd.int .i64) _ 3 ?hg (N := 47) ?hd (xs := ([1] : List Int)) (inner := [.int .i64 1]) (ok := fun _ => True) (okp := fun _ => True) ?hr ?hp (fun _ hk => hk) trivial (Below.refl _ _) (Nat.le_refl _) (by simp) ?_; (case hd => rfl); (case hg => rfl); (case hr => first | (go_simp; done) | (go_simp; rfl)); (case hp => exact (Reps.one (show Kd.M (Kd.int .i64) _ _ _ 1 [.int .i64 1] from rfl) (Reps.none _ _))); intro v1 w3 ho4 hb hg_ hnew_; clear hg_ hnew_; have HO := Aside0.mk ho4; have HB := Aside0.mk hb; clear ho4 hb)
  go_ret
  exact ⟨_, rfl, Kd.R_mono HO.out (fun _ _ => by decide), HB.out⟩

theorem pieces_28 (w : World) : Calls Try.prog 85 #[.int .i64 28] w (PiecesPost w [1]) := by
  go_enter Try.func85, Try.ntmps85
  go_wp2_with ((with_reducible refine gate_dst (N := 47) rfl ?_); refine Kd.R_lit (Kd.int .i64) _ 3 ?hg (N := 47) ?hd (xs := ([1] : List Int)) (inner := [.int .i64 1]) (ok := fun _ => True) (okp := fun _ => True) ?hr ?hp (fun _ hk => hk) trivial (Below.refl _ _) (Nat.le_refl _) (by simp) ?_; (case hd => rfl); (case hg => rfl); (case hr => first | (go_simp; done) | (go_simp; rfl)); (case hp => exact (Reps.one (show Kd.M (Kd.int .i64) _ _ _ 1 [.int .i64 1] from rfl) (Reps.none _ _))); intro v1 w3 ho4 hb hg_ hnew_; clear hg_ hnew_; have HO := Aside0.mk ho4; have HB := Aside0.mk hb; clear ho4 hb)
  go_ret
  exact ⟨_, rfl, Kd.R_mono HO.out (fun _ _ => by decide), HB.out⟩

theorem pieces_23 (w : World) : Calls Try.prog 85 #[.int .i64 23] w (PiecesPost w [3]) := by
  go_enter Try.func85, Try.ntmps85
  go_wp2_with ((with_reducible refine gate_dst (N := 51) rfl ?_); refine Kd.R_lit (Kd.int .i64) _ 3 ?hg (N := 51) ?hd (xs := ([3] : List Int)) (inner := [.int .i64 3]) (ok := fun _ => True) (okp := fun _ => True) ?hr ?hp (fun _ hk => hk) trivial (Below.refl _ _) (Nat.le_refl _) (by simp) ?_; (case hd => rfl); (case hg => rfl); (case hr => first | (go_simp; done) | (go_simp; rfl)); (case hp => exact (Reps.one (show Kd.M (Kd.int .i64) _ _ _ 3 [.int .i64 3] from rfl) (Reps.none _ _))); intro v1 w3 ho4 hb hg_ hnew_; clear hg_ hnew_; have HO := Aside0.mk ho4; have HB := Aside0.mk hb; clear ho4 hb)
  go_ret
  exact ⟨_, rfl, Kd.R_mono HO.out (fun _ _ => by decide), HB.out⟩

theorem pieces_29 (w : World) : Calls Try.prog 85 #[.int .i64 29] w (PiecesPost w [3]) := by
  go_enter Try.func85, Try.ntmps85
  go_wp2_with ((with_reducible refine gate_dst (N := 51) rfl ?_); refine Kd.R_lit (Kd.int .i64) _ 3 ?hg (N := 51) ?hd (xs := ([3] : List Int)) (inner := [.int .i64 3]) (ok := fun _ => True) (okp := fun _ => True) ?hr ?hp (fun _ hk => hk) trivial (Below.refl _ _) (Nat.le_refl _) (by simp) ?_; (case hd => rfl); (case hg => rfl); (case hr => first | (go_simp; done) | (go_simp; rfl)); (case hp => exact (Reps.one (show Kd.M (Kd.int .i64) _ _ _ 3 [.int .i64 3] from rfl) (Reps.none _ _))); intro v1 w3 ho4 hb hg_ hnew_; clear hg_ hnew_; have HO := Aside0.mk ho4; have HB := Aside0.mk hb; clear ho4 hb)
  go_ret
  exact ⟨_, rfl, Kd.R_mono HO.out (fun _ _ => by decide), HB.out⟩

theorem pieces_26 (w : World) : Calls Try.prog 85 #[.int .i64 26] w (PiecesPost w [6]) := by
  go_enter Try.func85, Try.ntmps85
  go_wp2_with ((with_reducible refine gate_dst (N := 54) rfl ?_); refine Kd.R_lit (Kd.int .i64) _ 3 ?hg (N := 54) ?hd (xs := ([6] : List Int)) (inner := [.int .i64 6]) (ok := fun _ => True) (okp := fun _ => True) ?hr ?hp (fun _ hk => hk) trivial (Below.refl _ _) (Nat.le_refl _) (by simp) ?_; (case hd => rfl); (case hg => rfl); (case hr => first | (go_simp; done) | (go_simp; rfl)); (case hp => exact (Reps.one (show Kd.M (Kd.int .i64) _ _ _ 6 [.int .i64 6] from rfl) (Reps.none _ _))); intro v1 w3 ho4 hb hg_ hnew_; clear hg_ hnew_; have HO := Aside0.mk ho4; have HB := Aside0.mk hb; clear ho4 hb)
  go_ret
  exact ⟨_, rfl, Kd.R_mono HO.out (fun _ _ => by decide), HB.out⟩

theorem pieces_27 (w : World) : Calls Try.prog 85 #[.int .i64 27] w (PiecesPost w [1, 7]) := by
  go_enter Try.func85, Try.ntmps85
  go_wp2_with ((with_reducible refine gate_dst (N := 57) rfl ?_); refine Kd.R_lit (Kd.int .i64) _ 3 ?hg (N := 57) ?hd (xs := ([1, 7] : List Int)) (inner := [.int .i64 1, .int .i64 7]) (ok := fun _ => True) (okp := fun _ => True) ?hr ?hp (fun _ hk => hk) trivial (Below.refl _ _) (Nat.le_refl _) (by simp) ?_; (case hd => rfl); (case hg => rfl); (case hr => first | (go_simp; done) | (go_simp; rfl)); (case hp => exact (Reps.one (show Kd.M (Kd.int .i64) _ _ _ 1 [.int .i64 1] from rfl) (Reps.one (show Kd.M (Kd.int .i64) _ _ _ 7 [.int .i64 7] from rfl) (Reps.none _ _)))); intro v1 w3 ho4 hb hg_ hnew_; clear hg_ hnew_; have HO := Aside0.mk ho4; have HB := Aside0.mk hb; clear ho4 hb)
  go_ret
  exact ⟨_, rfl, Kd.R_mono HO.out (fun _ _ => by decide), HB.out⟩

theorem pieces_none (n : Int) (w : World) (h : ¬ (n = 1 ∨ n = 2 ∨ n = 3 ∨ n = 4 ∨ n = 5 ∨ n = 6 ∨ n = 7 ∨ n = 8 ∨ n = 9 ∨ n = 10 ∨ n = 11 ∨ n = 12 ∨ n = 13 ∨ n = 14 ∨ n = 15 ∨ n = 16 ∨ n = 17 ∨ n = 18 ∨ n = 19 ∨ n = 21 ∨ n = 22 ∨ n = 23 ∨ n = 25 ∨ n = 26 ∨ n = 27 ∨ n = 28 ∨ n = 29 ∨ n = 30)) : Calls Try.prog 85 #[.int .i64 n] w (PiecesPost w []) := by
  simp only [not_or] at h
  obtain ⟨h1, h2, h3, h4, h5, h6, h7, h8, h9, h10, h11, h12, h13, h14, h15, h16, h17, h18, h19, h21, h22, h23, h25, h26, h27, h28, h29, h30⟩ := h
  have b1 : (n == 1) = false := beq_eq_false_iff_ne.mpr h1
  have b2 : (n == 2) = false := beq_eq_false_iff_ne.mpr h2
  have b3 : (n == 3) = false := beq_eq_false_iff_ne.mpr h3
  have b4 : (n == 4) = false := beq_eq_false_iff_ne.mpr h4
  have b5 : (n == 5) = false := beq_eq_false_iff_ne.mpr h5
  have b6 : (n == 6) = false := beq_eq_false_iff_ne.mpr h6
  have b7 : (n == 7) = false := beq_eq_false_iff_ne.mpr h7
  have b8 : (n == 8) = false := beq_eq_false_iff_ne.mpr h8
  have b9 : (n == 9) = false := beq_eq_false_iff_ne.mpr h9
  have b10 : (n == 10) = false := beq_eq_false_iff_ne.mpr h10
  have b11 : (n == 11) = false := beq_eq_false_iff_ne.mpr h11
  have b12 : (n == 12) = false := beq_eq_false_iff_ne.mpr h12
  have b13 : (n == 13) = false := beq_eq_false_iff_ne.mpr h13
  have b14 : (n == 14) = false := beq_eq_false_iff_ne.mpr h14
  have b15 : (n == 15) = false := beq_eq_false_iff_ne.mpr h15
  have b16 : (n == 16) = false := beq_eq_false_iff_ne.mpr h16
  have b17 : (n == 17) = false := beq_eq_false_iff_ne.mpr h17
  have b18 : (n == 18) = false := beq_eq_false_iff_ne.mpr h18
  have b19 : (n == 19) = false := beq_eq_false_iff_ne.mpr h19
  have b21 : (n == 21) = false := beq_eq_false_iff_ne.mpr h21
  have b22 : (n == 22) = false := beq_eq_false_iff_ne.mpr h22
  have b23 : (n == 23) = false := beq_eq_false_iff_ne.mpr h23
  have b25 : (n == 25) = false := beq_eq_false_iff_ne.mpr h25
  have b26 : (n == 26) = false := beq_eq_false_iff_ne.mpr h26
  have b27 : (n == 27) = false := beq_eq_false_iff_ne.mpr h27
  have b28 : (n == 28) = false := beq_eq_false_iff_ne.mpr h28
  have b29 : (n == 29) = false := beq_eq_false_iff_ne.mpr h29
  have b30 : (n == 30) = false := beq_eq_false_iff_ne.mpr h30
  clear h1 h2 h3 h4 h5 h6 h7 h8 h9 h10 h11 h12 h13 h14 h15 h16 h17 h18 h19 h21 h22 h23 h25 h26 h27 h28 h29 h30
  go_enter Try.func85, Try.ntmps85
  go_wp2
  go_ret
  exact ⟨_, rfl, Kd.R_nil _ _ _ _ _, Below.refl _ _⟩

theorem code_pieces.calls (a0 : Int) (r : List Int) (w : World) (h : code_pieces.f a0 = some r) :
    Calls Try.prog 85 #[.int .i64 a0] w fun e w' => ∃ v0_ : Value, e = .returned (v0_) ∧ Kd.R (Kd.int .i64) 3 w' w.heap.size (fun _ => r.length ≠ 0) v0_ r ∧ Below w.heap.size w w' := by
  obtain rfl := Option.some.inj h
  show Calls Try.prog 85 #[.int .i64 a0] w (PiecesPost w (piecesL a0))
  by_cases h : a0 = 1 ∨ a0 = 2 ∨ a0 = 3 ∨ a0 = 4 ∨ a0 = 5 ∨ a0 = 6 ∨ a0 = 7 ∨ a0 = 8 ∨ a0 = 9 ∨ a0 = 10 ∨ a0 = 11 ∨ a0 = 12 ∨ a0 = 13 ∨ a0 = 14 ∨ a0 = 15 ∨ a0 = 16 ∨ a0 = 17 ∨ a0 = 18 ∨ a0 = 19 ∨ a0 = 21 ∨ a0 = 22 ∨ a0 = 23 ∨ a0 = 25 ∨ a0 = 26 ∨ a0 = 27 ∨ a0 = 28 ∨ a0 = 29 ∨ a0 = 30
  · rcases h with rfl | rfl | rfl | rfl | rfl | rfl | rfl | rfl | rfl | rfl | rfl | rfl | rfl | rfl | rfl | rfl | rfl | rfl | rfl | rfl | rfl | rfl | rfl | rfl | rfl | rfl | rfl | rfl
    · exact pieces_1 w
    · exact pieces_2 w
    · exact pieces_3 w
    · exact pieces_4 w
    · exact pieces_5 w
    · exact pieces_6 w
    · exact pieces_7 w
    · exact pieces_8 w
    · exact pieces_9 w
    · exact pieces_10 w
    · exact pieces_11 w
    · exact pieces_12 w
    · exact pieces_13 w
    · exact pieces_14 w
    · exact pieces_15 w
    · exact pieces_16 w
    · exact pieces_17 w
    · exact pieces_18 w
    · exact pieces_19 w
    · exact pieces_21 w
    · exact pieces_22 w
    · exact pieces_23 w
    · exact pieces_25 w
    · exact pieces_26 w
    · exact pieces_27 w
    · exact pieces_28 w
    · exact pieces_29 w
    · exact pieces_30 w
  · have e : piecesL a0 = [] := by
      unfold piecesL
      simp only [not_or] at h
      simp [h]
    rw [e]
    exact pieces_none a0 w h
end Go.Proofs.Ytkgjbdbhpohkiaa.PLi
end
section
/- Whether a list of numbers has one outside 0 to size-1, as slices.ContainsFunc tells it with the program's two literals: code.inst's and code.Check's. -/
namespace Go.Proofs.Ytkgjbdbhpohkiaa.PLi
open Go.RowKit Go.Proofs.YtkgjbdbhpohkiaaW.PrintWords Go.Proofs.YtkgjbdbhpohkiaaW.PrintLast Go.Proofs.YtkgjbdbhpohkiaaW.PrintMore
set_option linter.unusedVariables false
set_option linter.unusedSimpArgs false

def offB (n s : Int) : Bool := decide (s < 0) || decide (n ≤ s)
theorem offB_neg {n s : Int} (h : s < 0) : offB n s = true := by unfold offB; rw [decide_eq_true h]; rfl
theorem offB_ge {n s : Int} (h : ¬ s < 0) (g : n ≤ s) : offB n s = true := by unfold offB; rw [decide_eq_true g, Bool.or_true]
theorem offB_in {n s : Int} (h : ¬ s < 0) (g : ¬ n ≤ s) : offB n s = false := by unfold offB; rw [decide_eq_false h, decide_eq_false g]; rfl
theorem any_succ (l : List Int) (p : Int → Bool) (i : Nat) (hi : i < l.length) : (l.take (i + 1)).any p = ((l.take i).any p || p (rd l i)) := by
  rw [List.take_succ_eq_append_getElem hi, List.any_append]
  congr 1
  show (p l[i] || false) = _
  rw [Bool.or_false]
  congr 1
  unfold rd
  rw [List.getD_eq_getElem?_getD, Int.toNat_natCast, List.getElem?_eq_getElem hi]
  rfl
theorem any_hit (l : List Int) (p : Int → Bool) (i : Nat) (hi : i < l.length) (h : p (rd l i) = true) : l.any p = true := by
  have h1 := any_succ l p i hi
  rw [h, Bool.or_true] at h1
  obtain ⟨x, hx, hp⟩ := List.any_eq_true.mp h1
  exact List.any_eq_true.mpr ⟨x, List.mem_of_mem_take hx, hp⟩

set_option maxHeartbeats 1000000 in
theorem off_two (s n : Int) (g : Nat) (w : World) (hc : w.cell? ⟨g, 0, none⟩ = some (.int .i64 n)) :
    Calls Try.prog 89 #[.int .i64 s, .pointer (some ⟨g, 0, none⟩)] w fun e w' => e = .returned (.bool (offB n s)) ∧ w = w' := by
  by_cases h1 : s < 0
  · have d1 : decide (s < 0) = true := decide_eq_true h1
    rw [offB_neg h1]
    clear h1
    go_enter Try.func89, Try.ntmps89
    go_wp2
    go_ret
    exact ⟨rfl, rfl⟩
  · have d1 : decide (s < 0) = false := decide_eq_false h1
    by_cases h2 : n ≤ s
    · have d2 : decide (n ≤ s) = true := decide_eq_true h2
      rw [offB_ge h1 h2]
      clear h1 h2
      go_enter Try.func89, Try.ntmps89
      go_wp2
      go_ret
      exact ⟨rfl, rfl⟩
    · have d2 : decide (n ≤ s) = false := decide_eq_false h2
      rw [offB_in h1 h2]
      clear h1 h2
      go_enter Try.func89, Try.ntmps89
      go_wp2
      go_ret
      exact ⟨rfl, rfl⟩

set_option maxHeartbeats 2000000 in
theorem index_two (l : List Int) (A0 : Option Addr) (c0 : Nat) (n : Int) (g : Nat) (w : World) (hr0 : Kd.C (Kd.int .i64) w A0 l.length l) (hc : w.cell? ⟨g, 0, none⟩ = some (.int .i64 n)) :
    Calls Try.prog 84 #[.slice A0 l.length c0, .func (.func 89) #[] #[.pointer (some ⟨g, 0, none⟩)]] w fun e w' => (∃ i : Int, e = .returned (.int .i64 i) ∧ (l.any (offB n) = decide (0 ≤ i))) ∧ w = w' := by
  have HR0 := Aside0.mk hr0
  have HL := Aside0.mk (show l.length ≤ 9223372036854775807 from hr0.2.1)
  clear hr0
  go_enter Try.func84, Try.ntmps84
  go_wp2
  go_loopg [8] l.length (fun kq v8 w' => ∃ i : Nat, v8 = .int .i64 i ∧ Aside0 (i ≤ l.length) ∧ Aside0 ((l.take i).any (offB n) = false) ∧ w = w' ∧ Aside0 (kq = l.length - i))
  case atStart => exact ⟨0, rfl, ⟨by omega⟩, ⟨rfl⟩, rfl, ⟨rfl⟩⟩
  case round =>
    obtain ⟨i, rfl, HI, HP, rfl, HK⟩ := hrel
    by_cases hi : i < l.length
    · have hs := any_succ l (offB n) i hi
      rw [HP.out, Bool.false_or] at hs
      have HS := Aside0.mk hs
      clear hs
      have c0b : decide ((i : Int) < (l.length : Int)) = true := decide_eq_true (by omega)
      have c1b : decide (i < l.length) = true := decide_eq_true (by omega)
      obtain ⟨ad, ea, hx⟩ := Kd.at_int HR0.out i (by omega) (by omega)
      cases ea
      rw [Int.toNat_natCast] at hx
      have hlen := HL.out
      have hi9 : (i : Int) < 9223372036854775807 := by omega
      have HI2 := Aside0.mk hi
      clear hi
      have p0 : (0 ≤ (i : Int)) = True := eq_true (by omega)
      have q0 : ((i : Int) < (l.length : Int)) = True := eq_true (by have := HI2.out; omega)
      cases hb : offB n (rd l i) with
      | true =>
        have hit := any_hit l (offB n) i HI2.out hb
        have HB := Aside0.mk hb
        have HIT := Aside0.mk hit
        clear hb hit
        have hcl := off_two (rd l i) n g w hc
        rw [HB.out] at hcl
        go_wp2_with (go_at_call 89; refine hcl.mono ?_; rintro e w' ⟨rfl, rfl⟩)
        go_ret
        exact ⟨⟨_, rfl, by rw [HIT.out]; exact (decide_eq_true (by omega)).symm⟩, rfl⟩
      | false =>
        have HB := Aside0.mk hb
        clear hb
        have hcl := off_two (rd l i) n g w hc
        rw [HB.out] at hcl
        go_wp2_with (go_at_call 89; refine hcl.mono ?_; rintro e w' ⟨rfl, rfl⟩)
        go_roundg (l.length - (i + 1))
        case measure => have := HK.out; have := HI2.out; omega
        case rel => exact ⟨i + 1, by simp, ⟨by have := HI2.out; omega⟩, ⟨by rw [HS.out]; exact HB.out⟩, rfl, ⟨rfl⟩⟩
    · have hn := HP.out
      rw [List.take_of_length_le (by omega)] at hn
      have HN := Aside0.mk hn
      clear hn
      have c0b : decide ((i : Int) < (l.length : Int)) = false := decide_eq_false (by omega)
      have c1b : decide (i < l.length) = false := decide_eq_false (by omega)
      clear hi
      go_wp2
      go_ret
      exact ⟨⟨_, rfl, by rw [HN.out]; rfl⟩, rfl⟩

set_option maxHeartbeats 1000000 in
theorem contains_two (l : List Int) (A0 : Option Addr) (c0 : Nat) (n : Int) (g : Nat) (w : World) (hr0 : Kd.C (Kd.int .i64) w A0 l.length l) (hc : w.cell? ⟨g, 0, none⟩ = some (.int .i64 n)) :
    Calls Try.prog 62 #[.slice A0 l.length c0, .func (.func 89) #[] #[.pointer (some ⟨g, 0, none⟩)]] w fun e w' => e = .returned (.bool (l.any (offB n))) ∧ w = w' := by
  have hix := index_two l A0 c0 n g w hr0 hc
  clear hr0 hc
  go_enter Try.func62, Try.ntmps62
  go_wp2_with (go_at_call 84; refine hix.mono ?_; rintro e w' ⟨⟨i, rfl, hi⟩, rfl⟩; have HI := Aside0.mk hi; clear hi)
  go_ret
  exact ⟨by rw [HI.out]; rfl, rfl⟩

set_option maxHeartbeats 1000000 in
theorem off_one (s n : Int) (g : Nat) (w : World) (hc : w.cell? ⟨g, 1, none⟩ = some (.int .i64 n)) :
    Calls Try.prog 63 #[.int .i64 s, .pointer (some ⟨g, 0, none⟩)] w fun e w' => e = .returned (.bool (offB n s)) ∧ w = w' := by
  by_cases h1 : s < 0
  · have d1 : decide (s < 0) = true := decide_eq_true h1
    rw [offB_neg h1]
    clear h1
    go_enter Try.func63, Try.ntmps63
    go_wp2
    go_ret
    exact ⟨rfl, rfl⟩
  · have d1 : decide (s < 0) = false := decide_eq_false h1
    by_cases h2 : n ≤ s
    · have d2 : decide (n ≤ s) = true := decide_eq_true h2
      rw [offB_ge h1 h2]
      clear h1 h2
      go_enter Try.func63, Try.ntmps63
      go_wp2
      go_ret
      exact ⟨rfl, rfl⟩
    · have d2 : decide (n ≤ s) = false := decide_eq_false h2
      rw [offB_in h1 h2]
      clear h1 h2
      go_enter Try.func63, Try.ntmps63
      go_wp2
      go_ret
      exact ⟨rfl, rfl⟩

set_option maxHeartbeats 2000000 in
theorem index_one (l : List Int) (A0 : Option Addr) (c0 : Nat) (n : Int) (g : Nat) (w : World) (hr0 : Kd.C (Kd.int .i64) w A0 l.length l) (hc : w.cell? ⟨g, 1, none⟩ = some (.int .i64 n)) :
    Calls Try.prog 84 #[.slice A0 l.length c0, .func (.func 63) #[] #[.pointer (some ⟨g, 0, none⟩)]] w fun e w' => (∃ i : Int, e = .returned (.int .i64 i) ∧ (l.any (offB n) = decide (0 ≤ i))) ∧ w = w' := by
  have HR0 := Aside0.mk hr0
  have HL := Aside0.mk (show l.length ≤ 9223372036854775807 from hr0.2.1)
  clear hr0
  go_enter Try.func84, Try.ntmps84
  go_wp2
  go_loopg [8] l.length (fun kq v8 w' => ∃ i : Nat, v8 = .int .i64 i ∧ Aside0 (i ≤ l.length) ∧ Aside0 ((l.take i).any (offB n) = false) ∧ w = w' ∧ Aside0 (kq = l.length - i))
  case atStart => exact ⟨0, rfl, ⟨by omega⟩, ⟨rfl⟩, rfl, ⟨rfl⟩⟩
  case round =>
    obtain ⟨i, rfl, HI, HP, rfl, HK⟩ := hrel
    by_cases hi : i < l.length
    · have hs := any_succ l (offB n) i hi
      rw [HP.out, Bool.false_or] at hs
      have HS := Aside0.mk hs
      clear hs
      have c0b : decide ((i : Int) < (l.length : Int)) = true := decide_eq_true (by omega)
      have c1b : decide (i < l.length) = true := decide_eq_true (by omega)
      obtain ⟨ad, ea, hx⟩ := Kd.at_int HR0.out i (by omega) (by omega)
      cases ea
      rw [Int.toNat_natCast] at hx
      have hlen := HL.out
      have hi9 : (i : Int) < 9223372036854775807 := by omega
      have HI2 := Aside0.mk hi
      clear hi
      have p0 : (0 ≤ (i : Int)) = True := eq_true (by omega)
      have q0 : ((i : Int) < (l.length : Int)) = True := eq_true (by have := HI2.out; omega)
      cases hb : offB n (rd l i) with
      | true =>
        have hit := any_hit l (offB n) i HI2.out hb
        have HB := Aside0.mk hb
        have HIT := Aside0.mk hit
        clear hb hit
        have hcl := off_one (rd l i) n g w hc
        rw [HB.out] at hcl
        go_wp2_with (go_at_call 63; refine hcl.mono ?_; rintro e w' ⟨rfl, rfl⟩)
        go_ret
        exact ⟨⟨_, rfl, by rw [HIT.out]; exact (decide_eq_true (by omega)).symm⟩, rfl⟩
      | false =>
        have HB := Aside0.mk hb
        clear hb
        have hcl := off_one (rd l i) n g w hc
        rw [HB.out] at hcl
        go_wp2_with (go_at_call 63; refine hcl.mono ?_; rintro e w' ⟨rfl, rfl⟩)
        go_roundg (l.length - (i + 1))
        case measure => have := HK.out; have := HI2.out; omega
        case rel => exact ⟨i + 1, by simp, ⟨by have := HI2.out; omega⟩, ⟨by rw [HS.out]; exact HB.out⟩, rfl, ⟨rfl⟩⟩
    · have hn := HP.out
      rw [List.take_of_length_le (by omega)] at hn
      have HN := Aside0.mk hn
      clear hn
      have c0b : decide ((i : Int) < (l.length : Int)) = false := decide_eq_false (by omega)
      have c1b : decide (i < l.length) = false := decide_eq_false (by omega)
      clear hi
      go_wp2
      go_ret
      exact ⟨⟨_, rfl, by rw [HN.out]; rfl⟩, rfl⟩

set_option maxHeartbeats 1000000 in
theorem contains_one (l : List Int) (A0 : Option Addr) (c0 : Nat) (n : Int) (g : Nat) (w : World) (hr0 : Kd.C (Kd.int .i64) w A0 l.length l) (hc : w.cell? ⟨g, 1, none⟩ = some (.int .i64 n)) :
    Calls Try.prog 62 #[.slice A0 l.length c0, .func (.func 63) #[] #[.pointer (some ⟨g, 0, none⟩)]] w fun e w' => e = .returned (.bool (l.any (offB n))) ∧ w = w' := by
  have hix := index_one l A0 c0 n g w hr0 hc
  clear hr0 hc
  go_enter Try.func62, Try.ntmps62
  go_wp2_with (go_at_call 84; refine hix.mono ?_; rintro e w' ⟨⟨i, rfl, hi⟩, rfl⟩; have HI := Aside0.mk hi; clear hi)
  go_ret
  exact ⟨by rw [HI.out]; rfl, rfl⟩
end Go.Proofs.Ytkgjbdbhpohkiaa.PLi
end
