/- What the function literal inside the program's token.Split does: it ends the word that is open, if there is one. -/
import Derived.Test.YthnkgnbemmndgaaSplitPure
import Derived.Deep.RegionLaw
namespace Go.Proofs.Ythnkgnbemmndgaa.PTk
open Go.RowKit Go.Proofs.YthnkgnbemmndgaaW.PrintWords Go.Proofs.YthnkgnbemmndgaaW.PrintLast Go.Proofs.YthnkgnbemmndgaaW.PrintMore Go.Proofs.Ythnkgnbemmndgaa.Str
set_option linter.unusedVariables false
set_option linter.unusedSimpArgs false

theorem infoTok : (Try.prog.info? 46).map (fun i => (i.zero, i.size, i.bytes)) = some (some (.agg #[(.string ⟨#[]⟩), (.int .i64 0)]), 2, 24) := by kernel_rfl

/-- All blocks but two, and but a row, stand as they stood. -/
def Stays (w w' : World) (a b : Nat) (r : Option Nat) : Prop := w.heap.size ≤ w'.heap.size ∧ ∀ k, k < w.heap.size → k ≠ a → k ≠ b → some k ≠ r → w'.heap[k]? = w.heap[k]?

theorem setCell_size (w : World) (p : Addr) (u : Value) : w.heap.size ≤ (w.setCell p u).heap.size := by simp

theorem end_post {bf bo B : Nat} {v v1 : Value} {fr : Int} {out out1 : List S46} {w0 w w1 : World} (hf : w.heap[bf]? = some (.cells #[.int .i64 fr] 3 (0, 0))) (ho : w.heap[bo]? = some (.cells #[v] 44 (0, 0)))
    (hv : Kd.R k46 46 w B (fun _ => True) v out) (hB : B ≤ bf ∧ B ≤ bo) (h1 : Kd.R k46 46 w1 B (fun _ => True) v1 out1) (hb1 : Below B w0 w1) (hg1 : w.drew.grownBy w1 v.ownBlock) :
    ∃ v', ((w1.setCell ⟨bo, 0, none⟩ v1).setCell ⟨bf, 0, none⟩ (.int .i64 (-1))).heap[bf]? = some (.cells #[.int .i64 (-1)] 3 (0, 0)) ∧ ((w1.setCell ⟨bo, 0, none⟩ v1).setCell ⟨bf, 0, none⟩ (.int .i64 (-1))).heap[bo]? = some (.cells #[v'] 44 (0, 0)) ∧
      Kd.R k46 46 ((w1.setCell ⟨bo, 0, none⟩ v1).setCell ⟨bf, 0, none⟩ (.int .i64 (-1))) B (fun _ => True) v' out1 ∧ Below B w0 ((w1.setCell ⟨bo, 0, none⟩ v1).setCell ⟨bf, 0, none⟩ (.int .i64 (-1))) ∧ Stays w ((w1.setCell ⟨bo, 0, none⟩ v1).setCell ⟨bf, 0, none⟩ (.int .i64 (-1))) bf bo v.ownBlock := by
  have hne : bf ≠ bo := blk_ne hf ho (by decide)
  have hf1 := blk_grown (blk_drew hf) hg1 (Kd.R_ne hv hf (by decide))
  have ho1 := blk_grown (blk_drew ho) hg1 (Kd.R_ne hv ho (by decide))
  have hf2 := blk_far hf1 (p := ⟨bo, 0, none⟩) hne v1
  have ho2 : (w1.setCell ⟨bo, 0, none⟩ v1).heap[bo]? = some (.cells #[v1] 44 (0, 0)) := by simpa using blk_set ho1 0 v1
  refine ⟨v1, by simpa using blk_set hf2 0 (.int .i64 (-1)), blk_far ho2 (p := ⟨bf, 0, none⟩) (Ne.symm hne) _, Kd.R_set (Kd.R_set h1 ho1 (by decide) 0 _) hf2 (by decide) 0 _, (hb1.setCell hB.2 _).setCell hB.1 _, ?_, fun k hk hkf hko hkr => ?_⟩
  · refine Nat.le_trans ?_ (Nat.le_trans (setCell_size w1 ⟨bo, 0, none⟩ v1) (setCell_size _ _ _))
    exact hg1.size
  · rw [Below.heap_setCell _ _ _ _ hkf, Below.heap_setCell _ _ _ _ hko]
    exact hg1.block k hk hkr

set_option maxHeartbeats 1000000 in
set_option maxRecDepth 100000 in
theorem split_end (s : ByteArray) (fr : Int) (i B bf bo bt : Nat) (v : Value) (out : List S46) (w0 w : World)
    (hf : w.heap[bf]? = some (.cells #[.int .i64 fr] 3 (0, 0))) (ho : w.heap[bo]? = some (.cells #[v] 44 (0, 0))) (ht : w.heap[bt]? = some (.cells #[.string s] 9 (0, 0)))
    (hv : Kd.R k46 46 w B (fun _ => True) v out) (hb : Below B w0 w) (hB : B ≤ bf ∧ B ≤ bo) (hs : s.size ≤ 65536) (hi : i ≤ s.size) (hfr : 0 ≤ fr) (hfi : fr ≤ i) (hl : out.length ≤ 65536) :
    Calls Try.prog 41 #[.int .i64 i, .pointer (some ⟨bf, 0, none⟩), .pointer (some ⟨bo, 0, none⟩), .pointer (some ⟨bt, 0, none⟩)] w fun e w' =>
      e = .returned (.tuple #[]) ∧ ∃ v', w'.heap[bf]? = some (.cells #[.int .i64 (-1)] 3 (0, 0)) ∧ w'.heap[bo]? = some (.cells #[v'] 44 (0, 0)) ∧
        Kd.R k46 46 w' B (fun _ => True) v' (closeW s fr i out) ∧ Below B w0 w' ∧ Stays w w' bf bo v.ownBlock := by
  have hcf : w.cell? ⟨bf, 0, none⟩ = some (.int .i64 fr) := (blk_cell hf 0).trans rfl
  have hco : w.cell? ⟨bo, 0, none⟩ = some v := (blk_cell ho 0).trans rfl
  have hct : w.cell? ⟨bt, 0, none⟩ = some (.string s) := (blk_cell ht 0).trans rfl
  have hzf : w.frozen? ⟨bf, 0, none⟩ = false := blk_frozen hf 0
  have hzo : w.frozen? ⟨bo, 0, none⟩ = false := blk_frozen ho 0
  have HF := Aside0.mk hf
  have HO := Aside0.mk ho
  have HT := Aside0.mk ht
  have HV := Aside0.mk hv
  have HB := Aside0.mk hb
  clear hf ho ht hv hb
  have hlt1 : bf < w.heap.size := blk_lt HF.out
  have hlt2 : bo < w.heap.size := blk_lt HO.out
  have hlt3 : bt < w.heap.size := blk_lt HT.out
  go_enter Try.func41, Try.ntmps41
  go_wp2
  go_region_law (refine Kd.R_append_step k46 (w0 := w0) (W := w.drew) B (by rfl) (.tmp 7) (.tmp 14) 44 46 (.agg #[(.string ⟨#[]⟩), (.int .i64 0)]) 24 rfl Try.underlying44 infoTok rfl (by decide) (by omega) v out (⟨s.extract fr.toNat i, fr⟩ : S46) [.string (s.extract fr.toNat i), .int .i64 fr] (fun _ => True) (fun _ => False) rfl rfl (k46_mkM _ _ _ (⟨s.extract fr.toNat i, fr⟩ : S46)) (fun _ hk => hk.elim) (fun _ _ => trivial) (Kd.R_drew HV.out) (below_drew HB.out) (Nat.le_trans hB.1 (Nat.le_of_lt hlt1)) (by omega) ?_; intro v1 w1 ho1 hb1 hg1 hat1; obtain ⟨A1, q1, rfl⟩ := Kd.R_slice ho1; have HO1 := Aside0.mk ho1; have HB1 := Aside0.mk hb1; have HG1 := Aside0.mk hg1; have c1 : w1.cell? ⟨bo, 0, none⟩ = some v := (blk_cell (blk_grown (blk_drew HO.out) hg1 (Kd.R_ne HV.out HO.out (by decide))) 0).trans rfl; have z1 : w1.frozen? ⟨bo, 0, none⟩ = false := blk_frozen (blk_grown (blk_drew HO.out) hg1 (Kd.R_ne HV.out HO.out (by decide))) 0; have hne : bf ≠ bo := blk_ne HF.out HO.out (by decide); have c2 : w1.cell? ⟨bf, 0, none⟩ = some (.int .i64 fr) := (blk_cell (blk_grown (blk_drew HF.out) hg1 (Kd.R_ne HV.out HF.out (by decide))) 0).trans rfl; have z2 : w1.frozen? ⟨bf, 0, none⟩ = false := blk_frozen (blk_grown (blk_drew HF.out) hg1 (Kd.R_ne HV.out HF.out (by decide))) 0; clear ho1 hb1 hg1 hat1)
  all_goals
    go_wp2
    go_end0
    refine ⟨rfl, ?_⟩
    have hcl : closeW s fr i out = out ++ [⟨s.extract fr.toNat i, fr⟩] := by unfold closeW; rw [if_neg (by omega)]
    rw [hcl]
    have hlen : out.length + 1 = (out ++ [(⟨s.extract fr.toNat i, fr⟩ : S46)]).length := by simp
    rw [hlen]
    exact end_post HF.out HO.out HV.out hB HO1.out HB1.out HG1.out

set_option maxHeartbeats 1000000 in
set_option maxRecDepth 100000 in
theorem split_end_no (fr : Int) (i B bf bo bt : Nat) (s : ByteArray) (v : Value) (out : List S46) (w0 w : World)
    (hf : w.heap[bf]? = some (.cells #[.int .i64 fr] 3 (0, 0))) (ho : w.heap[bo]? = some (.cells #[v] 44 (0, 0)))
    (hv : Kd.R k46 46 w B (fun _ => True) v out) (hb : Below B w0 w) (hB : B ≤ bf ∧ B ≤ bo) (hfr : fr < 0) :
    Calls Try.prog 41 #[.int .i64 i, .pointer (some ⟨bf, 0, none⟩), .pointer (some ⟨bo, 0, none⟩), .pointer (some ⟨bt, 0, none⟩)] w fun e w' =>
      e = .returned (.tuple #[]) ∧ ∃ v', w'.heap[bf]? = some (.cells #[.int .i64 (-1)] 3 (0, 0)) ∧ w'.heap[bo]? = some (.cells #[v'] 44 (0, 0)) ∧
        Kd.R k46 46 w' B (fun _ => True) v' (closeW s fr i out) ∧ Below B w0 w' ∧ Stays w w' bf bo v.ownBlock := by
  have hcf : w.cell? ⟨bf, 0, none⟩ = some (.int .i64 fr) := (blk_cell hf 0).trans rfl
  have hzf : w.frozen? ⟨bf, 0, none⟩ = false := blk_frozen hf 0
  have hd : decide (0 ≤ fr) = false := decide_eq_false (by omega)
  have HF := Aside0.mk hf
  have HO := Aside0.mk ho
  have HV := Aside0.mk hv
  have HB := Aside0.mk hb
  clear hf ho hv hb
  go_enter Try.func41, Try.ntmps41
  go_wp2
  go_end0
  refine ⟨rfl, v, by simpa using blk_set HF.out 0 (.int .i64 (-1)), blk_far HO.out (p := ⟨bf, 0, none⟩) (Ne.symm (blk_ne HF.out HO.out (by decide))) _, ?_, HB.out.setCell hB.1 _, setCell_size _ _ _, fun k hk hkf hko hkr => Below.heap_setCell _ _ _ _ hkf⟩
  have hcl : closeW s fr i out = out := by unfold closeW; rw [if_pos hfr]
  rw [hcl]
  exact Kd.R_set HV.out HF.out (by decide) 0 _

theorem split_any (s : ByteArray) (fr : Int) (i B bf bo bt : Nat) (v : Value) (out : List S46) (w0 w : World)
    (hf : w.heap[bf]? = some (.cells #[.int .i64 fr] 3 (0, 0))) (ho : w.heap[bo]? = some (.cells #[v] 44 (0, 0))) (ht : w.heap[bt]? = some (.cells #[.string s] 9 (0, 0)))
    (hv : Kd.R k46 46 w B (fun _ => True) v out) (hb : Below B w0 w) (hB : B ≤ bf ∧ B ≤ bo) (hs : s.size ≤ 65536) (hi : i ≤ s.size) (hfr : fr = -1 ∨ 0 ≤ fr ∧ fr ≤ i) (hl : out.length ≤ 65536) :
    Calls Try.prog 41 #[.int .i64 i, .pointer (some ⟨bf, 0, none⟩), .pointer (some ⟨bo, 0, none⟩), .pointer (some ⟨bt, 0, none⟩)] w fun e w' =>
      e = .returned (.tuple #[]) ∧ ∃ v', w'.heap[bf]? = some (.cells #[.int .i64 (-1)] 3 (0, 0)) ∧ w'.heap[bo]? = some (.cells #[v'] 44 (0, 0)) ∧
        Kd.R k46 46 w' B (fun _ => True) v' (closeW s fr i out) ∧ Below B w0 w' ∧ Stays w w' bf bo v.ownBlock := by
  rcases hfr with h | ⟨h1, h2⟩
  · exact split_end_no fr i B bf bo bt s v out w0 w hf ho hv hb hB (by omega)
  · exact split_end s fr i B bf bo bt v out w0 w hf ho ht hv hb hB hs hi h1 h2 hl
end Go.Proofs.Ythnkgnbemmndgaa.PTk
