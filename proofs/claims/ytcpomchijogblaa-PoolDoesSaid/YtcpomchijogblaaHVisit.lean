/- The literal in pool.Reach: an object is met, if there is one and it has not been met. -/
import Derived.Test.YtcpomchijogblaaHPoolMake
namespace Go.Proofs.Ytcpomchijogblaa.PPo
open Go.RowKit Go.Proofs.YtcpomchijogblaaW.PrintWords Go.Proofs.YtcpomchijogblaaW.PrintLast Go.Proofs.YtcpomchijogblaaW.PrintMore Go.Proofs.Ytcpomchijogblaa.Str
set_option linter.unusedVariables false
set_option linter.unusedSimpArgs false

def cellsB (c : List Bool) : Array Value := (c.map Value.bool).toArray
theorem cellsB_get (c : List Bool) (j : Nat) (h : j < c.length) : (cellsB c)[j]? = some (.bool (c.getD j false)) := by
  unfold cellsB
  rw [List.getElem?_toArray, List.getElem?_map, List.getElem?_eq_getElem h, List.getD_eq_getElem?_getD, List.getElem?_eq_getElem h]
  rfl
theorem cellsB_set (c : List Bool) (j : Nat) (x : Bool) : (cellsB c).setIfInBounds j (.bool x) = cellsB (c.set j x) := by
  unfold cellsB
  rw [List.map_set, List.setIfInBounds_toArray]
/-- What has been met, and in which order, in memory. -/
structure VisD (lo : Nat) (W : World) (mb mk ob : Nat) (v : Value) (met : List Bool) (l : List Int) : Prop where
  hm : W.heap[mb]? = some (.cells #[.slice (some ⟨mk, 0, none⟩) met.length met.length] 79 (0, 0))
  hk : W.heap[mk]? = some (.cells (cellsB met) 4 (0, 0))
  ho : W.heap[ob]? = some (.cells #[v] 40 (0, 0))
  row : Kd.R (Kd.int .i64) 3 W lo (fun k => lo ≤ k) v l
  gm : lo ≤ mb
  gk : lo ≤ mk
  go : lo ≤ ob
  ne : mb ≠ ob
/-- What may be met now. -/
def visM (met : List Bool) (id : Int) : Bool := decide (1 ≤ id) && decide (id < (met.length : Int)) && !(met.getD id.toNat false)
def visit (s : List Bool × List Int) (id : Int) : List Bool × List Int := if visM s.1 id = true then (s.1.set id.toNat true, s.2 ++ [id]) else s

/-- Blocks of other types than rows of numbers and of Bools, and what holds such a row, stay. -/
def VisKept (w w' : World) : Prop := ∀ (k t : Nat) (cells : Array Value), w.heap[k]? = some (.cells cells t (0, 0)) → t ≠ 3 → t ≠ 4 → t ≠ 40 → w'.heap[k]? = w.heap[k]?
set_option maxHeartbeats 8000000 in
set_option maxRecDepth 100000 in
theorem visit.calls {lo mb mk ob : Nat} {v : Value} {met : List Bool} {l : List Int} (id : Int) (w : World) (hV : VisD lo w mb mk ob v met l) (hlo : lo ≤ w.heap.size) (hN : met.length ≤ 4000000000000000000) (hl : (l.length + 1) * 8 ≤ 140737488355328) :
    Calls Try.prog 60 #[.int .i64 id, .pointer (some ⟨mb, 0, none⟩), .pointer (some ⟨ob, 0, none⟩)] w fun e w' => e = .returned (.tuple #[]) ∧ (∃ v1, VisD lo w' mb mk ob v1 (visit (met, l) id).1 (visit (met, l) id).2) ∧ Below lo w w' ∧ VisKept w w' := by
  have cm : w.cell? ⟨mb, 0, none⟩ = some (.slice (some ⟨mk, 0, none⟩) met.length met.length) := (blk_cell hV.hm 0).trans rfl
  have hno : ∀ {e : Ending}, e = .returned (.tuple #[]) → visM met id = false → (e = .returned (.tuple #[]) ∧ (∃ v1, VisD lo w mb mk ob v1 (visit (met, l) id).1 (visit (met, l) id).2) ∧ Below lo w w ∧ VisKept w w) := fun he h => by
    have e2 : visit (met, l) id = (met, l) := by unfold visit; rw [h]; rfl
    rw [e2]
    exact ⟨he, ⟨v, hV⟩, Below.refl _ _, fun _ _ _ _ _ _ _ => rfl⟩
  have HV := Aside0.mk hV
  have HNo := Aside0.mk @hno
  have HLo := Aside0.mk hlo
  have HL := Aside0.mk hl
  have HN := Aside0.mk hN
  clear hV hno hlo hl hN
  by_cases h1 : 1 ≤ id
  · have d1 : decide (id ≥ 1) = true := decide_eq_true h1
    by_cases h2 : id < (met.length : Int)
    · have d2 : decide (id < (met.length : Int)) = true := decide_eq_true h2
      have d3 : (0 ≤ id ∧ id < (met.length : Int)) = True := eq_true ⟨by omega, h2⟩
      have hj : id.toNat < met.length := by omega
      have ck : w.cell? ⟨mk, id.toNat, none⟩ = some (.bool (met.getD id.toNat false)) := (blk_cell HV.out.hk id.toNat).trans (cellsB_get met _ hj)
      cases hb : met.getD id.toNat false with
      | true =>
        have hv : visM met id = false := by unfold visM; rw [hb]; simp
        rw [hb] at ck
        have HX := Aside0.mk hv
        clear hv hb h1 h2 hj
        go_enter Try.func60, Try.ntmps60
        go_wp2
        first | go_end0 | ((try simp only [Exit.inBlock, Exit.then]); refine bodyPost_ret (results_none rfl _ _ _) rfl ?_)
        exact HNo.out rfl HX.out
      | false =>
        have hv : visit (met, l) id = (met.set id.toNat true, l ++ [id]) := by
          unfold visit visM
          rw [hb, decide_eq_true h1, decide_eq_true h2]
          rfl
        rw [hv]
        rw [hb] at ck
        have fk : w.frozen? ⟨mk, id.toNat, none⟩ = false := blk_frozen HV.out.hk id.toNat
        have hk1 := blk_put HV.out.hk id.toNat (.bool true) (cellsB_set met id.toNat true)
        have ho1 : (w.setCell ⟨mk, id.toNat, none⟩ (.bool true)).heap[ob]? = some (.cells #[v] 40 (0, 0)) := (Below.heap_setCell w ⟨mk, id.toNat, none⟩ (.bool true) ob (fun e => by
          have h9 := HV.out.ho
          rw [show ob = mk from e, HV.out.hk] at h9
          injection h9 with h9
          injection h9 with _ h9
          exact absurd h9 (by decide))).trans HV.out.ho
        have hm1 : (w.setCell ⟨mk, id.toNat, none⟩ (.bool true)).heap[mb]? = some (.cells #[.slice (some ⟨mk, 0, none⟩) met.length met.length] 79 (0, 0)) := (Below.heap_setCell w ⟨mk, id.toNat, none⟩ (.bool true) mb (fun e => by
          have h9 := HV.out.hm
          rw [show mb = mk from e, HV.out.hk] at h9
          injection h9 with h9
          injection h9 with _ h9
          exact absurd h9 (by decide))).trans HV.out.hm
        have hr1 := Kd.R_set HV.out.row HV.out.hk (fun q hq => by rw [List.mem_singleton.1 hq]; decide) id.toNat (.bool true)
        have hb1 : Below lo w (w.setCell ⟨mk, id.toNat, none⟩ (.bool true)) := (Below.refl lo w).setCell HV.out.gk _
        have cob : (w.setCell ⟨mk, id.toNat, none⟩ (.bool true)).cell? ⟨ob, 0, none⟩ = some v := (blk_cell ho1 0).trans rfl
        have HS := Aside0.mk (World.size_setCell w ⟨mk, id.toNat, none⟩ (.bool true))
        have hfar : ∀ (k t : Nat) (cells : Array Value), w.heap[k]? = some (.cells cells t (0, 0)) → t ≠ 4 → (w.setCell ⟨mk, id.toNat, none⟩ (.bool true)).heap[k]? = w.heap[k]? := fun k t cells hk ht => Below.heap_setCell w ⟨mk, id.toNat, none⟩ (.bool true) k (fun e => by
          rw [show k = mk from e, HV.out.hk] at hk
          injection hk with hk
          injection hk with _ hk
          exact ht hk.symm)
        have HK1 := Aside0.mk hk1
        have HO1 := Aside0.mk ho1
        have HM1 := Aside0.mk hm1
        have HR1 := Aside0.mk hr1
        have HB1 := Aside0.mk hb1
        have HFar := Aside0.mk hfar
        clear hv hb h1 h2 hj hk1 ho1 hm1 hr1 hb1 hfar
        go_enter Try.func60, Try.ntmps60
        go_wp2_with (first | ((with_reducible refine gate_builtin (b := .append) (xs := #[.tmp 22, .tmp 24]) rfl ?_); at_builtin; refine Kd.R_append (Kd.int .i64) (w0 := w) lo rfl (.tmp 22) (.tmp 24) 40 3 (.int .i64 0) 8 rfl Try.underlying40 (by kernel_rfl) rfl (by decide) (by omega) v l id [.int .i64 id] (fun k => lo ≤ k) (fun _ => False) rfl (by show Value.slice (some ⟨w.heap.size, 0, none⟩) 1 1 = _; rw [HS.out]) rfl (fun _ hk => hk.elim) (fun k hk => Nat.le_trans HLo.out (Nat.le_trans (Nat.le_of_eq HS.out.symm) hk)) HR1.out HB1.out (Nat.le_trans HLo.out (Nat.le_of_eq HS.out.symm)) HL.out ?_; intro v1 w4 hr4 hb4 hg4 hv4; (obtain ⟨A1, c1, hv1, hl1, hC1⟩ := Kd.R_reads hr4); (obtain rfl := hv1); have G4 := Aside0.mk hg4; have HR4 := Aside0.mk hr4; have HB4 := Aside0.mk hb4; have ho4 := (hg4.block ob (heap_lt HO1.out) (Kd.R_ne HR1.out HO1.out (by decide))).trans HO1.out; have cob4 : w4.cell? ⟨ob, 0, none⟩ = some v := (blk_cell ho4 0).trans rfl; have fob4 : w4.frozen? ⟨ob, 0, none⟩ = false := blk_frozen ho4 0; have HO4 := Aside0.mk ho4; clear hr4 hb4 hg4 hv4 hl1 hC1 ho4))
        first | go_end0 | ((try simp only [Exit.inBlock, Exit.then]); refine bodyPost_ret (results_none rfl _ _ _) rfl ?_)
        have e5 : (l ++ [id]).length = l.length + 1 := by rw [List.length_append]; rfl
        have h4 := HR4.out
        rw [e5] at h4
        have hneb : ∀ (k t : Nat) (cells : Array Value), w.heap[k]? = some (.cells cells t (0, 0)) → t ≠ 40 → k ≠ ob := fun k t cells hk ht e => by
          rw [e, HV.out.ho] at hk
          injection hk with hk
          injection hk with _ hk
          exact ht hk.symm
        have h5 : ∀ k, k ≠ ob → (w4.setCell ⟨ob, 0, none⟩ (.slice A1 (l.length + 1) c1)).heap[k]? = w4.heap[k]? := fun k hk => Below.heap_setCell w4 ⟨ob, 0, none⟩ (.slice A1 (l.length + 1) c1) k hk
        refine ⟨rfl, ⟨_, ⟨?_, ?_, blk_put HO4.out 0 _ rfl, ?_, HV.out.gm, HV.out.gk, HV.out.go, HV.out.ne⟩⟩, HB4.out.setCell HV.out.go _, ?_⟩
        · rw [List.length_set]
          exact (h5 mb HV.out.ne).trans ((G4.out.block mb (heap_lt HM1.out) (Kd.R_ne HR1.out HM1.out (by decide))).trans HM1.out)
        · exact (h5 mk (hneb mk _ _ HV.out.hk (by decide))).trans ((G4.out.block mk (heap_lt HK1.out) (Kd.R_ne HR1.out HK1.out (by decide))).trans HK1.out)
        · exact Kd.R_set h4 HO4.out (fun q hq => by rw [List.mem_singleton.1 hq]; decide) 0 _
        · intro k t cells hk h3 h4b h40
          have hk1 := (HFar.out k t cells hk h4b).trans hk
          exact (h5 k (hneb k t cells hk h40)).trans ((G4.out.block k (heap_lt hk1) (Kd.R_ne HR1.out hk1 (fun e => h3 e.symm))).trans (HFar.out k t cells hk h4b))
    · have d2 : decide (id < (met.length : Int)) = false := decide_eq_false h2
      have hv : visM met id = false := by unfold visM; rw [d2]; simp
      have HX := Aside0.mk hv
      clear hv h1 h2
      go_enter Try.func60, Try.ntmps60
      go_wp2
      first | go_end0 | ((try simp only [Exit.inBlock, Exit.then]); refine bodyPost_ret (results_none rfl _ _ _) rfl ?_)
      exact HNo.out rfl HX.out
  · have d1 : decide (id ≥ 1) = false := decide_eq_false h1
    have hv : visM met id = false := by unfold visM; rw [decide_eq_false h1]; rfl
    have HX := Aside0.mk hv
    clear hv h1
    go_enter Try.func60, Try.ntmps60
    go_wp2
    first | go_end0 | ((try simp only [Exit.inBlock, Exit.then]); refine bodyPost_ret (results_none rfl _ _ _) rfl ?_)
    exact HNo.out rfl HX.out
end Go.Proofs.Ytcpomchijogblaa.PPo
