/- pool.Wipe: no objects, in the row that there was. -/
import Derived.Test.YtcpomchijogblaaHPoolNew
import Derived.Laws.CopyRow
import Derived.Laws.CopyOwn
namespace Go.Proofs.Ytcpomchijogblaa.PPo
open Go.RowKit Go.Proofs.YtcpomchijogblaaW.PrintWords Go.Proofs.YtcpomchijogblaaW.PrintLast Go.Proofs.YtcpomchijogblaaW.PrintMore Go.Proofs.Ytcpomchijogblaa.Str
set_option linter.unusedVariables false
set_option linter.unusedSimpArgs false

theorem zeros_one (n : Nat) : ∀ v ∈ (Builtin.zeroCells (Value.agg #[.int .i64 0, .int .i64 0, .slice none 0 0]).cells n).toList, v.oneCell' = true := by
  intro v hv
  have h := List.getElem_of_mem hv
  obtain ⟨i, hi, rfl⟩ := h
  simp only [Builtin.zeroCells]
  have hsz : (Value.agg #[.int .i64 0, .int .i64 0, .slice none 0 0]).cells = #[.int .i64 0, .int .i64 0, .slice none 0 0] := by kernel_rfl
  simp only [hsz, Array.getElem_toList, Array.getElem_ofFn]
  have : i % 3 = 0 ∨ i % 3 = 1 ∨ i % 3 = 2 := by omega
  rcases this with h | h | h <;> simp [h] <;> rfl
theorem zeros_len (n : Nat) : (Builtin.zeroCells (Value.agg #[.int .i64 0, .int .i64 0, .slice none 0 0]).cells n).toList.length = n * 3 := by
  have hsz : (Value.agg #[.int .i64 0, .int .i64 0, .slice none 0 0]).cells = #[.int .i64 0, .int .i64 0, .slice none 0 0] := by kernel_rfl
  simp [Builtin.zeroCells, hsz]
theorem clear_row {lo : Nat} {ok : Nat → Prop} {w : World} {g : Nat} {v : Value} {bs : List Nat} {L : List S73} {n : Int} (hP : PoolD lo ok w g v bs L n) :
    ∃ A c W1, v = .slice A L.length c ∧ (∀ ty, (Builtin.clear_ #[68] ty #[v]).run Try.prog w = .ok (.tuple #[]) W1) ∧ W1.heap[g]? = some (.cells #[v, .int .i64 n] 70 (0, 0)) ∧ Below lo w W1 ∧ (∀ k, ¬ ok k → W1.heap[k]? = w.heap[k]?) ∧ Kd.R kO 73 W1 lo ok (.slice A 0 c) [] ∧ (A = none → c = 0) := by
  have hrow := hP.row
  obtain ⟨hok, inner, ⟨hin, hv⟩, hreps⟩ := hrow
  rw [raw_len L bs hP.len] at hin hv
  rcases hv with ⟨rfl, h0⟩ | ⟨rb, cap, cur, rfl, hlo, hheap, hle, hcap, hsz, htk⟩
  · refine ⟨none, 0, w, by rw [h0], fun ty => ?_, hP.top, Below.refl _ _, fun _ _ => rfl, Kd.R_nil _ _ _ _ _, fun _ => rfl⟩
    simp [Builtin.clear_, run_underlying Try.underlying68]
  · rw [show kO.sz = 3 from rfl] at hsz
    have hgr : g ≠ rb := fun e => by
      have ht := hP.top
      rw [e, hheap] at ht
      injection ht with ht
      injection ht with _ ht
      exact absurd ht (by decide)
    have hR : ∀ (W1 : World) (cur1 : Array Value), W1.heap[rb]? = some (.cells cur1 73 (0, 0)) → cur1.size = cap * 3 → Kd.R kO 73 W1 lo ok (.slice (some ⟨rb, 0, none⟩) 0 cap) [] := fun W1 cur1 h1 h2 =>
      ⟨hok, [], ⟨rfl, .inr ⟨rb, cap, cur1, rfl, hlo, h1, Nat.zero_le _, hcap, h2, by simp⟩⟩, Reps.none _ _⟩
    by_cases h0 : L.length = 0
    · refine ⟨some ⟨rb, 0, none⟩, cap, w, rfl, fun ty => ?_, hP.top, Below.refl _ _, fun _ _ => rfl, hR w cur hheap hsz, fun h => by cases h⟩
      rw [h0]
      simp [Builtin.clear_, run_underlying Try.underlying68]
    · have hst := run_storeCells_at (P := Try.prog) rb 0 73 (Builtin.zeroCells (Value.agg #[.int .i64 0, .int .i64 0, .slice none 0 0]).cells L.length).toList 0 cur w hheap (by rw [zeros_len, hsz]; omega) (zeros_one _)
      obtain ⟨W1, hW1⟩ : ∃ W1, W1 = w.setRow rb (List.take (0 + 0) cur.toList ++ (Builtin.zeroCells (Value.agg #[.int .i64 0, .int .i64 0, .slice none 0 0]).cells L.length).toList ++ List.drop (0 + 0 + (Builtin.zeroCells (Value.agg #[.int .i64 0, .int .i64 0, .slice none 0 0]).cells L.length).toList.length) cur.toList).toArray := ⟨_, rfl⟩
      rw [← hW1] at hst
      have hz : ∀ W, (zeroValue 73).run Try.prog W = .ok (Value.agg #[.int .i64 0, .int .i64 0, .slice none 0 0]) W := fun W => by kernel_rfl
      refine ⟨some ⟨rb, 0, none⟩, cap, W1, rfl, fun ty => ?_, ?_, ?_, ?_, ?_, fun h => by cases h⟩
      · obtain ⟨m, hm⟩ : ∃ m, L.length = m + 1 := ⟨L.length - 1, by omega⟩
        rw [hm] at hst ⊢
        clear hW1 hreps htk hR
        simp [Builtin.clear_, run_underlying Try.underlying68, hz, hst]
      · rw [hW1]
        exact (setRow_other w rb g _ hgr).trans hP.top
      · rw [hW1]
        exact below_setRow (Below.refl _ _) hlo _
      · intro k hk
        rw [hW1]
        exact setRow_other w rb k _ (fun e => hk (e ▸ hok rb rfl))
      · rw [hW1]
        refine hR _ _ (setRow_heap w rb cur _ _ _ hheap) ?_
        rw [List.size_toArray, List.length_append, List.length_append, List.length_take, List.length_drop, zeros_len, Array.length_toList]
        omega
set_option maxHeartbeats 4000000 in
set_option maxRecDepth 100000 in
theorem pool_Wipe.calls {lo : Nat} {ok : Nat → Prop} {g : Nat} {v : Value} {bs : List Nat} {L : List S73} {n : Int} (w : World) (hP : PoolD lo ok w g v bs L n) :
    Calls Try.prog 23 #[.pointer (some ⟨g, 0, none⟩)] w fun e w' => e = .returned (.tuple #[]) ∧ (∃ v1, PoolD lo ok w' g v1 [] [] 0) ∧ Below lo w w' ∧ ∀ k, ¬ ok k → w'.heap[k]? = w.heap[k]? := by
  have hu70 := Try.underlying70
  have hu68 := Try.underlying68
  obtain ⟨A, c, W1, rfl, hcl, htop, hb, hk, hr, hA⟩ := clear_row hP
  have cg : w.cell? ⟨g, 0, none⟩ = some (.slice A L.length c) := (blk_cell hP.top 0).trans rfl
  have cg1 : W1.cell? ⟨g, 0, none⟩ = some (.slice A L.length c) := (blk_cell htop 0).trans rfl
  have fg1 : W1.frozen? ⟨g, 0, none⟩ = false := blk_frozen htop 0
  have t1 := blk_put htop 0 (.slice A 0 c) rfl
  have cg2 : (W1.setCell ⟨g, 0, none⟩ (.slice A 0 c)).cell? ⟨g, 1, none⟩ = some (.int .i64 n) := (blk_cell t1 1).trans rfl
  have fg2 : (W1.setCell ⟨g, 0, none⟩ (.slice A 0 c)).frozen? ⟨g, 1, none⟩ = false := blk_frozen t1 1
  have t2 := blk_put t1 1 (.int .i64 0) rfl
  have hfin : PoolD lo ok ((W1.setCell ⟨g, 0, none⟩ (.slice A 0 c)).setCell ⟨g, 1, none⟩ (.int .i64 0)) g (.slice A 0 c) [] [] 0 := by
    refine ⟨t2, hP.ge, hP.okg, ?_, rfl, List.nodup_nil, by simp, by simp⟩
    exact Kd.R_set (Kd.R_set hr htop (fun q hq => by rw [List.mem_singleton.1 hq]; decide) 0 _) t1 (fun q hq => by rw [List.mem_singleton.1 hq]; decide) 1 _
  have hbf : Below lo w ((W1.setCell ⟨g, 0, none⟩ (.slice A 0 c)).setCell ⟨g, 1, none⟩ (.int .i64 0)) := (hb.setCell (p := ⟨g, 0, none⟩) hP.ge _).setCell (p := ⟨g, 1, none⟩) hP.ge _
  have hkf : ∀ k, ¬ ok k → ((W1.setCell ⟨g, 0, none⟩ (.slice A 0 c)).setCell ⟨g, 1, none⟩ (.int .i64 0)).heap[k]? = w.heap[k]? := fun k hk0 => by
    have hne : k ≠ g := fun e => hk0 (e ▸ hP.okg)
    exact (Below.heap_setCell _ ⟨g, 1, none⟩ (.int .i64 0) k hne).trans ((Below.heap_setCell _ ⟨g, 0, none⟩ (.slice A 0 c) k hne).trans (hk k hk0))
  have HF := Aside0.mk hfin
  have HB := Aside0.mk hbf
  have HK := Aside0.mk hkf
  clear hfin hbf hkf t1 t2 hr hk hb htop hP
  cases A with
  | none =>
    obtain rfl := hA rfl
    clear hA
    go_enter Try.func23, Try.ntmps23
    go_wp2
    first | go_end0 | ((try simp only [Exit.inBlock, Exit.then]); refine bodyPost_ret (results_none rfl _ _ _) rfl ?_)
    exact ⟨rfl, ⟨_, HF.out⟩, HB.out, HK.out⟩
  | some ad =>
    clear hA
    go_enter Try.func23, Try.ntmps23
    go_wp2
    first | go_end0 | ((try simp only [Exit.inBlock, Exit.then]); refine bodyPost_ret (results_none rfl _ _ _) rfl ?_)
    exact ⟨rfl, ⟨_, HF.out⟩, HB.out, HK.out⟩
end Go.Proofs.Ytcpomchijogblaa.PPo
