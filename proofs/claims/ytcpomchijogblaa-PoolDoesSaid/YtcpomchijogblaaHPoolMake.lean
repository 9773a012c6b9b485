/- Another object in the pool: pool.Make. -/
import Derived.Test.YtcpomchijogblaaHPoolNew
namespace Go.Proofs.Ytcpomchijogblaa.PPo
open Go.RowKit Go.Proofs.YtcpomchijogblaaW.PrintWords Go.Proofs.YtcpomchijogblaaW.PrintLast Go.Proofs.YtcpomchijogblaaW.PrintMore Go.Proofs.Ytcpomchijogblaa.Str
set_option linter.unusedVariables false
set_option linter.unusedSimpArgs false

theorem raw_app : ∀ (l : List S73) (bs : List Nat) (x : S73) (b : Nat), bs.length = l.length → raw (l ++ [x]) (bs ++ [b]) = raw l bs ++ [(x.f0, b, x.f1.length)]
  | [], [], x, b, _ => rfl
  | y :: l, c :: bs, x, b, h => congrArg ((y.f0, c, y.f1.length) :: ·) (raw_app l bs x b (by simpa using h))
theorem made_cells (m : Nat) : madeCells #[.int .i64 0] m = cellsI (List.replicate m 0) := by
  apply Array.ext
  · simp [madeCells, cellsI]
  · intro i h1 h2
    simp [madeCells, cellsI, Nat.mod_one]
theorem PoolD.mono {lo : Nat} {ok ok' : Nat → Prop} {W : World} {g : Nat} {v : Value} {bs : List Nat} {L : List S73} {n : Int} (h : PoolD lo ok W g v bs L n) (hk : ∀ k, ok k → ok' k) : PoolD lo ok' W g v bs L n :=
  ⟨h.top, h.ge, hk _ h.okg, Kd.R_mono h.row hk, h.len, h.nod, h.ob, fun i hi => ⟨(h.slots i hi).1, hk _ (h.slots i hi).2.1, (h.slots i hi).2.2⟩⟩
/-- What a pool is when an object has been added: the row of objects grown, its slots made. -/
theorem PoolD.made {lo : Nat} {ok : Nat → Prop} {W W4 : World} {g b : Nat} {v v1 : Value} {bs : List Nat} {L : List S73} {n n1 : Int} {x : S31} (h : PoolD lo ok W g v bs L n) (h0 : 0 ≤ x.f0) (h1 : x.f0 ≤ 16)
    (hb : W.heap[b]? = some (.cells (cellsI (List.replicate x.f0.toNat 0)) 2 (0, 0))) (hlo : lo ≤ b) (hok : ok b) (hnew : ∀ i, i < L.length → bs.getD i 0 ≠ b)
    (hr : Kd.R kO 73 W4 lo ok v1 (raw L bs ++ [(x, b, x.f0.toNat)])) (hg : ∀ (k : Nat) (cells : Array Value), W.heap[k]? = some (.cells cells 2 (0, 0)) → W4.heap[k]? = W.heap[k]?)
    (ht : W4.heap[g]? = some (.cells #[v1, .int .i64 n1] 70 (0, 0))) : PoolD lo ok W4 g v1 (bs ++ [b]) (L ++ [⟨x, List.replicate x.f0.toNat 0⟩]) n1 where
  top := ht
  ge := h.ge
  okg := h.okg
  row := by
    rw [raw_app L bs _ b h.len]
    simpa using hr
  len := by rw [List.length_append, List.length_append, h.len]; rfl
  nod := by
    rw [List.nodup_append]
    refine ⟨h.nod, by simp, ?_⟩
    intro a ha c hc e
    rw [List.mem_singleton.1 hc] at e
    obtain ⟨i, hi, hq⟩ := List.getElem_of_mem ha
    refine hnew i (by have := h.len; omega) ?_
    rw [List.getD_eq_getElem?_getD, List.getElem?_eq_getElem hi]
    exact hq.trans e
  ob := fun y hy => by
    rcases List.mem_append.1 hy with hy | hy
    · exact h.ob y hy
    · rw [List.mem_singleton.1 hy]
      exact ⟨h0, h1, by simp⟩
  slots := fun i hi => by
    rw [List.length_append] at hi
    by_cases e : i < L.length
    · obtain ⟨g1, g2, g3⟩ := h.slots i e
      have e1 : (bs ++ [b]).getD i 0 = bs.getD i 0 := by rw [List.getD_eq_getElem?_getD, List.getElem?_append_left (by have := h.len; omega), ← List.getD_eq_getElem?_getD]
      have e2 : (L ++ [(⟨x, List.replicate x.f0.toNat 0⟩ : S73)]).getD i z73 = L.getD i z73 := by rw [List.getD_eq_getElem?_getD, List.getElem?_append_left e, ← List.getD_eq_getElem?_getD]
      rw [e1, e2]
      exact ⟨g1, g2, (hg _ _ g3).trans g3⟩
    · have e3 : i = L.length := by simp at hi; omega
      have e1 : (bs ++ [b]).getD i 0 = b := by rw [e3, ← h.len]; simp
      have e2 : (L ++ [(⟨x, List.replicate x.f0.toNat 0⟩ : S73)]).getD i z73 = (⟨x, List.replicate x.f0.toNat 0⟩ : S73) := by rw [e3]; simp
      rw [e1, e2]
      exact ⟨hlo, hok, (hg _ _ hb).trans hb⟩

section
variable {lo : Nat} {ok : Nat → Prop} {g : Nat} {v : Value} {bs : List Nat} {L : List S73} {n : Int}
set_option maxHeartbeats 8000000 in
set_option maxRecDepth 100000 in
theorem pool_Make.calls (sl mk : Int) (h0 : 0 ≤ sl) (h1 : sl ≤ 16) (w : World) (hP : PoolD lo ok w g v bs L n) (hfresh : ∀ k, w.heap.size ≤ k → ok k) (hlo : lo ≤ w.heap.size) (hn : 0 ≤ n ∧ n ≤ 9000000000000000000) (hL : (L.length + 1) * 40 ≤ 140737488355328) :
    Calls Try.prog 12 #[.pointer (some ⟨g, 0, none⟩), .agg #[.int .i64 sl, .int .i64 mk]] w fun e w' => e = .returned (.int .i64 ((L.length : Int) + 1)) ∧ (∃ v1 b, PoolD lo ok w' g v1 (bs ++ [b]) (L ++ [⟨⟨sl, mk⟩, List.replicate sl.toNat 0⟩]) (n + 1 + sl)) ∧ Below lo w w' ∧ ∀ k, ¬ ok k → k < w.heap.size → w'.heap[k]? = w.heap[k]? := by
  obtain ⟨m, rfl⟩ := Int.eq_ofNat_of_zero_le h0
  have hu70 := Try.underlying70
  have hu73 := Try.underlying73
  have hu31 := Try.underlying31
  have hmk := print_make (P := Try.prog) 71 2 .i64 8 Try.underlying71 info2 (by omega) m (by omega)
  have HP := Aside0.mk hP
  have HF := Aside0.mk hfresh
  have HLo := Aside0.mk hlo
  have HN := Aside0.mk hn
  have HLL := Aside0.mk hL
  have HM := Aside0.mk (show m ≤ 16 by omega)
  clear hP hfresh hlo hn hL h0 h1
  go_enter Try.func12, Try.ntmps12
  go_upto_region 1 with (fail)
  have hb1 : Below w.heap.size w (w.alloc (.cells #[.int .i64 (m : Int), .int .i64 mk] 31)).drew := below_drew1 (below_alloc (Below.refl _ _) _)
  have bk1 : (w.alloc (.cells #[.int .i64 (m : Int), .int .i64 mk] 31)).drew.heap[w.heap.size]? = some (.cells #[.int .i64 (m : Int), .int .i64 mk] 31 (0, 0)) := blk_new w _
  have HP1 := Aside0.mk (HP.out.below hb1)
  have HB1 := Aside0.mk hb1
  have BK1 := Aside0.mk bk1
  clear hb1 bk1
  refine start_ (n := 15) (S := fun w' => w'.cell? ⟨g, 0, none⟩ = some v ∧ w'.cell? ⟨w.heap.size, 0, none⟩ = some (.int .i64 (m : Int)) ∧ w'.cell? ⟨w.heap.size, 1, none⟩ = some (.int .i64 mk)) (ds := [14]) #[false, false, false, false, false, false, false, false, false, false, false, false, false, false, false] (by kernel_rfl) rfl rfl ⟨(blk_cell (HP1.out).top 0).trans rfl, (blk_cell (BK1.out) 0).trans rfl, (blk_cell (BK1.out) 1).trans rfl⟩ (fun hHeld => ?_)
  generalize (w.alloc (.cells #[.int .i64 (m : Int), .int .i64 mk] 31)).drew = W1 at HP1 HB1 BK1 hHeld ⊢
  refine pure_ (i := 0) (N := some 5) (v := ?_) (a' := ?_) #[true, false, false, false, false, false, false, false, false, false, false, false, false, false, false] rfl rfl (by kernel_rfl) (fun _ _ _ h => h) (Or.inl ⟨by rfl, ?_⟩) ?_ ?_
  rotate_left
  · intro w'
    go_simp
    with_reducible rfl
  rotate_left
  · simp only [Act.put, List.setIfInBounds_toArray, List.set_cons_zero, List.set_cons_succ, i64_w, i32_w]
    rfl
  refine pure_ (i := 1) (N := some 6) (v := ?_) (a' := ?_) #[true, true, false, false, false, false, false, false, false, false, false, false, false, false, false] rfl rfl (by kernel_rfl) (fun _ _ _ h => h) (Or.inl ⟨by rfl, ?_⟩) ?_ ?_
  rotate_left
  · intro w'
    go_simp
    with_reducible rfl
  rotate_left
  · simp only [Act.put, List.setIfInBounds_toArray, List.set_cons_zero, List.set_cons_succ, i64_w, i32_w]
    rfl
  refine pure_ (i := 2) (N := some 7) (v := ?_) (a' := ?_) #[true, true, true, false, false, false, false, false, false, false, false, false, false, false, false] rfl rfl (by kernel_rfl) (fun _ _ _ h => h) (Or.inl ⟨by rfl, ?_⟩) ?_ ?_
  rotate_left
  · intro w'
    go_simp
    with_reducible rfl
  rotate_left
  · simp only [Act.put, List.setIfInBounds_toArray, List.set_cons_zero, List.set_cons_succ, i64_w, i32_w]
    rfl
  refine pure_ (i := 3) (N := some 8) (v := ?_) (a' := ?_) #[true, true, true, true, false, false, false, false, false, false, false, false, false, false, false] rfl rfl (by kernel_rfl) (fun _ _ _ h => h) (Or.inl ⟨by rfl, ?_⟩) ?_ ?_
  rotate_left
  · intro w'
    go_simp
    with_reducible rfl
  rotate_left
  · simp only [Act.put, List.setIfInBounds_toArray, List.set_cons_zero, List.set_cons_succ, i64_w, i32_w]
    rfl
  refine pure_ (i := 6) (N := some 11) (v := ?_) (a' := ?_) #[true, true, true, true, false, false, true, false, false, false, false, false, false, false, false] rfl rfl (by kernel_rfl) (fun _ _ _ h => h) (Or.inl ⟨by rfl, ?_⟩) ?_ ?_
  rotate_left
  · intro w'
    go_simp
    with_reducible rfl
  rotate_left
  · simp only [Act.put, List.setIfInBounds_toArray, List.set_cons_zero, List.set_cons_succ, i64_w, i32_w]
    rfl
  refine take_ (i := 4) (N := some 9) (v := ?_) (a' := ?_) #[true, true, true, true, true, false, true, false, false, false, false, false, false, false, false] rfl rfl (by kernel_rfl) (fun _ _ _ h => h) (Or.inl ⟨by rfl, ?_⟩) hHeld ?_ ?_
  rotate_left
  · rintro w' ⟨s0, s1, s2⟩
    go_simp
    with_reducible rfl
  rotate_left
  · simp only [Act.put, List.setIfInBounds_toArray, List.set_cons_zero, List.set_cons_succ, i64_w, i32_w]
    rfl
  refine take_ (i := 5) (N := some 10) (v := ?_) (a' := ?_) #[true, true, true, true, true, true, true, false, false, false, false, false, false, false, false] rfl rfl (by kernel_rfl) (fun _ _ _ h => h) (Or.inl ⟨by rfl, ?_⟩) hHeld ?_ ?_
  rotate_left
  · rintro w' ⟨s0, s1, s2⟩
    go_simp
    with_reducible rfl
  rotate_left
  · simp only [Act.put, List.setIfInBounds_toArray, List.set_cons_zero, List.set_cons_succ, i64_w, i32_w]
    rfl
  refine take_ (i := 7) (N := some 12) (v := ?_) (a' := ?_) #[true, true, true, true, true, true, true, true, false, false, false, false, false, false, false] rfl rfl (by kernel_rfl) (fun _ _ _ h => h) (Or.inl ⟨by rfl, ?_⟩) hHeld ?_ ?_
  rotate_left
  · rintro w' ⟨s0, s1, s2⟩
    go_simp
    with_reducible rfl
  rotate_left
  · simp only [Act.put, List.setIfInBounds_toArray, List.set_cons_zero, List.set_cons_succ, i64_w, i32_w]
    rfl
  refine one_ (i := 8) (N := some 13) #[true, true, true, true, true, true, true, true, true, false, false, false, false, false, false] rfl rfl (by kernel_rfl) (by decide) (fun K hK => ?_)
  refine value_ (w1 := ?_) (v := ?_) (by rfl) rfl ?_ ?_
  rotate_left 2
  · go_simp
    constructor
    · rfl
    · rfl
  have HP2 := Aside0.mk (HP1.out.below (below_alloc (Below.refl _ _) (.cells (madeCells #[.int .i64 0] m) 2)))
  have BK2 := Aside0.mk (blk_alloc BK1.out (.cells (madeCells #[.int .i64 0] m) 2))
  refine hK.out _ _ ⟨(blk_cell (HP2.out).top 0).trans rfl, (blk_cell (BK2.out) 0).trans rfl, (blk_cell (BK2.out) 1).trans rfl⟩ (fun hHeld => ?_)
  clear hK K
  refine norm_ (a' := ?_) ?_ ?_
  rotate_left
  · show Act.put _ (some 13) _ = _
    simp only [Act.put, List.setIfInBounds_toArray, List.set_cons_zero, List.set_cons_succ, i64_w, i32_w]
    rfl
  refine pure_ (i := 9) (N := some 14) (v := ?_) (a' := ?_) #[true, true, true, true, true, true, true, true, true, true, false, false, false, false, false] rfl rfl (by kernel_rfl) (fun _ _ _ h => h) (Or.inl ⟨by rfl, ?_⟩) ?_ ?_
  rotate_left
  · intro w'
    go_simp
    with_reducible rfl
  rotate_left
  · simp only [Act.put, List.setIfInBounds_toArray, List.set_cons_zero, List.set_cons_succ, i64_w, i32_w]
    rfl
  refine one_ (i := 10) (N := some 15) #[true, true, true, true, true, true, true, true, true, true, true, false, false, false, false] rfl rfl (by kernel_rfl) (by decide) (fun K hK => ?_)
  refine value_ (w1 := ?_) (v := ?_) (by rfl) rfl ?_ ?_
  rotate_left 2
  · go_simp
    constructor
    · rfl
    · rfl
  have HP3 := Aside0.mk (HP2.out.below (below_alloc (Below.refl _ _) (.cells #[.int .i64 (m : Int), .int .i64 mk, .slice (some ⟨W1.heap.size, 0, none⟩) m m] 73)))
  have BK3 := Aside0.mk (blk_alloc BK2.out (.cells #[.int .i64 (m : Int), .int .i64 mk, .slice (some ⟨W1.heap.size, 0, none⟩) m m] 73))
  refine hK.out _ _ ⟨(blk_cell (HP3.out).top 0).trans rfl, (blk_cell (BK3.out) 0).trans rfl, (blk_cell (BK3.out) 1).trans rfl⟩ (fun hHeld => ?_)
  clear hK K
  refine norm_ (a' := ?_) ?_ ?_
  rotate_left
  · show Act.put _ (some 15) _ = _
    simp only [Act.put, List.setIfInBounds_toArray, List.set_cons_zero, List.set_cons_succ, i64_w, i32_w]
    rfl
  refine one_ (i := 11) (N := some 16) #[true, true, true, true, true, true, true, true, true, true, true, true, false, false, false] rfl rfl (by kernel_rfl) (by decide) (fun K hK => ?_)
  refine Kd.R_append_step kO (w0 := w) lo (by rfl) (.tmp 9) (.tmp 15) 68 73 (.agg #[(.int .i64 0), (.int .i64 0), (.slice none 0 0)]) 40 rfl Try.underlying68 (by kernel_rfl) rfl (by decide) (by omega) v (raw L bs) ((⟨(m : Int), mk⟩ : S31), W1.heap.size, m) [.int .i64 (m : Int), .int .i64 mk, .slice (some ⟨W1.heap.size, 0, none⟩) m m] ok (fun k => ok k ∧ some k ≠ v.ownBlock) rfl (by first | rfl | (simp; rfl)) (kO_mkM _ _ _ _) (fun _ hk => hk) (fun k hk => HF.out k (Nat.le_trans (below_size HB1.out) (Nat.le_trans (by simp) hk))) HP2.out.row ((HB1.out.mono HLo.out).trans (below_alloc (Below.refl _ _) _ |>.mono (Nat.le_trans HLo.out (below_size HB1.out)))) (Nat.le_trans HLo.out (Nat.le_trans (below_size HB1.out) (by simp))) (by rw [raw_len L bs HP1.out.len]; exact HLL.out) ?_
  intro v1 w4 hr4 hb4 hg4 hv4
  have hlen : (raw L bs ++ [((⟨(m : Int), mk⟩ : S31), W1.heap.size, m)]).length = L.length + 1 := by rw [List.length_append, raw_len L bs HP1.out.len]; rfl
  obtain ⟨A1, c1, hv1, hl1, hC1⟩ := Kd.R_reads hr4
  rw [hlen] at hv1 hl1 hC1
  subst hv1
  have HC1 := Aside0.mk hC1
  have HL1 := Aside0.mk hl1
  clear hC1 hl1 hlen
  have g4 := (hg4.block g (heap_lt HP2.out.top) (Kd.R_ne HP2.out.row HP2.out.top (by decide))).trans HP2.out.top
  have b4 := (hg4.block w.heap.size (heap_lt BK2.out) (Kd.R_ne HP2.out.row BK2.out (by decide))).trans BK2.out
  have HR4 := Aside0.mk hr4
  have HB4 := Aside0.mk hb4
  have HG4 := Aside0.mk hg4
  have G4 := Aside0.mk g4
  have B4 := Aside0.mk b4
  clear hr4 hb4 hg4 hv4 g4 b4
  refine hK.out _ _ ⟨(blk_cell G4.out 0).trans rfl, (blk_cell B4.out 0).trans rfl, (blk_cell B4.out 1).trans rfl⟩ (fun hHeld => ?_)
  clear hK K
  refine norm_ (a' := ?_) ?_ ?_
  rotate_left
  · show Act.put _ (some 16) _ = _
    simp only [Act.put, List.setIfInBounds_toArray, List.set_cons_zero, List.set_cons_succ, i64_w, i32_w]
    rfl
  refine pure_ (i := 12) (N := some 17) (v := ?_) (a' := ?_) #[true, true, true, true, true, true, true, true, true, true, true, true, true, false, false] rfl rfl (by kernel_rfl) (fun _ _ _ h => h) (Or.inl ⟨by rfl, ?_⟩) ?_ ?_
  rotate_left
  · intro w'
    go_simp
    with_reducible rfl
  rotate_left
  · simp only [Act.put, List.setIfInBounds_toArray, List.set_cons_zero, List.set_cons_succ, i64_w, i32_w]
    rfl
  refine pure_ (i := 13) (N := some 18) (v := ?_) (a' := ?_) #[true, true, true, true, true, true, true, true, true, true, true, true, true, true, false] rfl rfl (by kernel_rfl) (fun _ _ _ h => h) (Or.inl ⟨by rfl, ?_⟩) ?_ ?_
  rotate_left
  · intro w'
    go_simp
    with_reducible rfl
  rotate_left
  · simp only [Act.put, List.setIfInBounds_toArray, List.set_cons_zero, List.set_cons_succ, i64_w, i32_w]
    rfl
  refine last_ (i := 14) (N := none) #[true, true, true, true, true, true, true, true, true, true, true, true, true, true, true] rfl rfl (by kernel_rfl) (by decide) (fun K hK => ?_)
  have c4_ : w4.cell? ⟨g, 0, none⟩ = some v := (blk_cell G4.out 0).trans rfl
  have f4_ : w4.frozen? ⟨g, 0, none⟩ = false := blk_frozen G4.out 0
  refine skip_ (w1 := ?_) (by rfl) rfl ?_ ?_
  rotate_left
  · go_simp
    rfl
  refine hK.out _ _ ?_
  clear hK K
  refine done_ (by kernel_rfl) ?_
  have gne : w.heap.size ≠ g := fun e => by have := heap_lt HP.out.top; omega
  have g5 := blk_put G4.out 0 (Value.slice A1 (L.length + 1) c1) rfl
  have b5 : (w4.setCell ⟨g, 0, none⟩ (Value.slice A1 (L.length + 1) c1)).heap[w.heap.size]? = some (.cells #[.int .i64 (m : Int), .int .i64 mk] 31 (0, 0)) := (Below.heap_setCell w4 ⟨g, 0, none⟩ (Value.slice A1 (L.length + 1) c1) _ gne).trans B4.out
  have G5 := Aside0.mk g5
  have B5 := Aside0.mk b5
  clear g5 b5
  go_upto_region 2 with (fail)
  refine start_ (n := 11) (S := fun w' => w'.cell? ⟨g, 1, none⟩ = some (.int .i64 n) ∧ w'.cell? ⟨w.heap.size, 0, none⟩ = some (.int .i64 (m : Int))) (ds := [10]) #[false, false, false, false, false, false, false, false, false, false, false] (by kernel_rfl) rfl rfl ⟨(blk_cell G5.out 1).trans rfl, (blk_cell B5.out 0).trans rfl⟩ (fun hHeld => ?_)
  refine pure_ (i := 0) (N := some 19) (v := ?_) (a' := ?_) #[true, false, false, false, false, false, false, false, false, false, false] rfl rfl (by kernel_rfl) (fun _ _ _ h => h) (Or.inl ⟨by rfl, ?_⟩) ?_ ?_
  rotate_left
  · intro w'
    go_simp
    with_reducible rfl
  rotate_left
  · simp only [Act.put, List.setIfInBounds_toArray, List.set_cons_zero, List.set_cons_succ, i64_w, i32_w]
    rfl
  refine pure_ (i := 1) (N := some 20) (v := ?_) (a' := ?_) #[true, true, false, false, false, false, false, false, false, false, false] rfl rfl (by kernel_rfl) (fun _ _ _ h => h) (Or.inl ⟨by rfl, ?_⟩) ?_ ?_
  rotate_left
  · intro w'
    go_simp
    with_reducible rfl
  rotate_left
  · simp only [Act.put, List.setIfInBounds_toArray, List.set_cons_zero, List.set_cons_succ, i64_w, i32_w]
    rfl
  refine pure_ (i := 2) (N := some 21) (v := ?_) (a' := ?_) #[true, true, true, false, false, false, false, false, false, false, false] rfl rfl (by kernel_rfl) (fun _ _ _ h => h) (Or.inl ⟨by rfl, ?_⟩) ?_ ?_
  rotate_left
  · intro w'
    go_simp
    with_reducible rfl
  rotate_left
  · simp only [Act.put, List.setIfInBounds_toArray, List.set_cons_zero, List.set_cons_succ, i64_w, i32_w]
    rfl
  refine pure_ (i := 4) (N := some 23) (v := ?_) (a' := ?_) #[true, true, true, false, true, false, false, false, false, false, false] rfl rfl (by kernel_rfl) (fun _ _ _ h => h) (Or.inl ⟨by rfl, ?_⟩) ?_ ?_
  rotate_left
  · intro w'
    go_simp
    with_reducible rfl
  rotate_left
  · simp only [Act.put, List.setIfInBounds_toArray, List.set_cons_zero, List.set_cons_succ, i64_w, i32_w]
    rfl
  refine take_ (i := 3) (N := some 22) (v := ?_) (a' := ?_) #[true, true, true, true, true, false, false, false, false, false, false] rfl rfl (by kernel_rfl) (fun _ _ _ h => h) (Or.inl ⟨by rfl, ?_⟩) hHeld ?_ ?_
  rotate_left
  · rintro w' ⟨s0, s1⟩
    go_simp
    with_reducible rfl
  rotate_left
  · simp only [Act.put, List.setIfInBounds_toArray, List.set_cons_zero, List.set_cons_succ, i64_w, i32_w]
    rfl
  refine take_ (i := 5) (N := some 24) (v := ?_) (a' := ?_) #[true, true, true, true, true, true, false, false, false, false, false] rfl rfl (by kernel_rfl) (fun _ _ _ h => h) (Or.inl ⟨by rfl, ?_⟩) hHeld ?_ ?_
  rotate_left
  · rintro w' ⟨s0, s1⟩
    go_simp
    with_reducible rfl
  rotate_left
  · simp only [Act.put, List.setIfInBounds_toArray, List.set_cons_zero, List.set_cons_succ, i64_w, i32_w]
    rfl
  refine pure_ (i := 6) (N := some 25) (v := ?_) (a' := ?_) #[true, true, true, true, true, true, true, false, false, false, false] rfl rfl (by kernel_rfl) (fun _ _ _ h => h) (Or.inl ⟨by rfl, ?_⟩) ?_ ?_
  rotate_left
  · intro w'
    go_simp
    with_reducible rfl
  rotate_left
  · simp only [Act.put, List.setIfInBounds_toArray, List.set_cons_zero, List.set_cons_succ, i64_w, i32_w]
    rfl
  refine pure_ (i := 7) (N := some 26) (v := ?_) (a' := ?_) #[true, true, true, true, true, true, true, true, false, false, false] rfl rfl (by kernel_rfl) (fun _ _ _ h => h) (Or.inl ⟨by rfl, ?_⟩) ?_ ?_
  rotate_left
  · intro w'
    go_simp
    with_reducible rfl
  rotate_left
  · simp only [Act.put, List.setIfInBounds_toArray, List.set_cons_zero, List.set_cons_succ, i64_w, i32_w]
    rfl
  refine pure_ (i := 8) (N := some 27) (v := ?_) (a' := ?_) #[true, true, true, true, true, true, true, true, true, false, false] rfl rfl (by kernel_rfl) (fun _ _ _ h => h) (Or.inl ⟨by rfl, ?_⟩) ?_ ?_
  rotate_left
  · intro w'
    go_simp
    with_reducible rfl
  rotate_left
  · simp only [Act.put, List.setIfInBounds_toArray, List.set_cons_zero, List.set_cons_succ, i64_w, i32_w]
    rfl
  refine pure_ (i := 9) (N := some 28) (v := ?_) (a' := ?_) #[true, true, true, true, true, true, true, true, true, true, false] rfl rfl (by kernel_rfl) (fun _ _ _ h => h) (Or.inl ⟨by rfl, ?_⟩) ?_ ?_
  rotate_left
  · intro w'
    go_simp
    with_reducible rfl
  rotate_left
  · simp only [Act.put, List.setIfInBounds_toArray, List.set_cons_zero, List.set_cons_succ, i64_w, i32_w]
    rfl
  refine last_ (i := 10) (N := none) #[true, true, true, true, true, true, true, true, true, true, true] rfl rfl (by kernel_rfl) (by decide) (fun K hK => ?_)
  have c5_ : (w4.setCell ⟨g, 0, none⟩ (Value.slice A1 (L.length + 1) c1)).drew.cell? ⟨g, 1, none⟩ = some (.int .i64 n) := (blk_cell G5.out 1).trans rfl
  have f5_ : (w4.setCell ⟨g, 0, none⟩ (Value.slice A1 (L.length + 1) c1)).drew.frozen? ⟨g, 1, none⟩ = false := blk_frozen G5.out 1
  have c6_ : w4.cell? ⟨g, 1, none⟩ = some (.int .i64 n) := (blk_cell G4.out 1).trans rfl
  have f6_ : w4.frozen? ⟨g, 1, none⟩ = false := blk_frozen G4.out 1
  refine skip_ (w1 := ?_) (by rfl) rfl ?_ ?_
  rotate_left
  · go_simp
    rfl
  refine hK.out _ _ ?_
  clear hK K
  refine done_ (by kernel_rfl) ?_
  have hw : wrap64 (n + wrap64 (1 + (m : Int))) = n + 1 + (m : Int) := by
    have hm_ := HM.out
    have hn_ := HN.out
    rw [w64 (x := 1 + (m : Int)) (by omega) (by omega), w64 (by omega) (by omega)]
    omega
  rw [hw]
  have g7 : ((w4.setCell ⟨g, 0, none⟩ (Value.slice A1 (L.length + 1) c1)).drew.setCell ⟨g, 1, none⟩ (.int .i64 (n + 1 + (m : Int)))).heap[g]? = some (.cells #[(Value.slice A1 (L.length + 1) c1), .int .i64 (n + 1 + (m : Int))] 70 (0, 0)) := blk_put (blk_drew G5.out) 1 _ rfl
  have c7_ := (blk_cell g7 0).trans rfl
  have G7 := Aside0.mk g7
  clear g7
  go_wp2
  go_ret
  have hkeep : ∀ k, k ≠ g → k < (W1.alloc (.cells (madeCells #[.int .i64 0] m) 2)).heap.size → some k ≠ v.ownBlock → ((w4.setCell ⟨g, 0, none⟩ (Value.slice A1 (L.length + 1) c1)).drew.setCell ⟨g, 1, none⟩ (.int .i64 (n + 1 + (m : Int)))).heap[k]? = (W1.alloc (.cells (madeCells #[.int .i64 0] m) 2)).heap[k]? := fun k ne hlt hne =>
    (Below.heap_setCell _ ⟨g, 1, none⟩ _ k ne).trans ((Below.heap_setCell w4 ⟨g, 0, none⟩ _ k ne).trans (HG4.out.block k hlt hne))
  refine ⟨rfl, ⟨_, W1.heap.size, PoolD.made (x := ⟨(m : Int), mk⟩) HP2.out (by show (0 : Int) ≤ (m : Int); omega) (by have := HM.out; show (m : Int) ≤ 16; omega) ?hb (Nat.le_trans HLo.out (below_size HB1.out)) (HF.out _ (below_size HB1.out)) ?hnew ?hr ?hg G7.out⟩, ((HB4.out.setCell HP.out.ge _).drew.setCell HP.out.ge _), ?hkp⟩
  case hb =>
    have h := blk_new W1 (.cells (madeCells #[.int .i64 0] m) 2)
    refine h.trans ?_
    rw [made_cells]
    rfl
  case hnew => exact fun i hi e => by have := heap_lt (HP1.out.slots i hi).2.2; omega
  case hr =>
    have h := Kd.R_set (Kd.R_move (w1 := (w4.setCell ⟨g, 0, none⟩ (Value.slice A1 (L.length + 1) c1)).drew) (Kd.R_set HR4.out G4.out (fun q hq => by rw [List.mem_singleton.1 hq]; decide) 0 (Value.slice A1 (L.length + 1) c1)) (fun _ _ => rfl)) (blk_drew G5.out) (fun q hq => by rw [List.mem_singleton.1 hq]; decide) 1 (.int .i64 (n + 1 + (m : Int)))
    exact h
  case hg =>
    intro k cells hk
    refine hkeep k (fun e => ?_) (heap_lt hk) (Kd.R_ne HP2.out.row hk (by decide))
    rw [e, HP2.out.top] at hk
    injection hk with hk
    injection hk with _ hk
    exact absurd hk (by decide)
  case hkp =>
    intro k hk hlt
    have h1 : W1.heap[k]? = w.heap[k]? := HB1.out.block k hlt
    have hlt1 : k < W1.heap.size := Nat.lt_of_lt_of_le hlt (below_size HB1.out)
    have h2 : (W1.alloc (.cells (madeCells #[.int .i64 0] m) 2)).heap[k]? = W1.heap[k]? := Below.heap_alloc W1 _ k hlt1
    exact (hkeep k (fun e => hk (e ▸ HP.out.okg)) (by simp; omega) (fun e => hk (HP.out.row.1 k e.symm))).trans (h2.trans h1)
end
end Go.Proofs.Ytcpomchijogblaa.PPo
