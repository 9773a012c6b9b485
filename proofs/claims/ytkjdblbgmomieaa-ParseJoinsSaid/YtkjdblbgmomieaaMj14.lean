import Derived.Test.YtkjdblbgmomieaaMj13
import Derived.Test.YtkjdblbgmomieaaMj8
import Derived.Test.YtkjdblbgmomieaaMj1
import Derived.KernelRfl
import Derived.Test.YtkjdblbgmomieaaMj7
-- from YtkjdblbgmomieaaHPText
section
namespace Go.Proofs.Ytkjdblbgmomieaa.PSh
open Go.RowKit Go.Proofs.YtkjdblbgmomieaaW.PrintWords Go.Proofs.YtkjdblbgmomieaaW.PrintLast Go.Proofs.YtkjdblbgmomieaaW.PrintMore Go.Proofs.Ytkjdblbgmomieaa.Str Go.Proofs.Ytkjdblbgmomieaa.Dig Go.Proofs.Ytkjdblbgmomieaa.DigLaw
set_option linter.unusedVariables false
set_option linter.unusedSimpArgs false
theorem PAt.rebase {g bp : Nat} {tl ts : List Tk} {en n : Int} {w0 w1 : World} {A : Option Addr} {l c t : Nat} (h : PAt g tl ts en n w0 w1) (hlt : bp < w0.heap.size) (hb : w1.heap[bp]? = some (.cells #[.slice A l c] t (0, 0))) (u : Value) :
    PAt g tl ts en n (w0.setCell ⟨bp, 0, none⟩ u) (w1.setCell ⟨bp, 0, none⟩ u) := by
  obtain ⟨pre, e, A0, c0, hG, hg, hC⟩ := h.i
  have hb0 : w0.heap[bp]? = some (.cells #[.slice A l c] t (0, 0)) := (h.b.block bp hlt).symm.trans hb
  have hs : (w0.setCell ⟨bp, 0, none⟩ u).heap.size = w0.heap.size := by simp [World.setCell]
  refine ⟨⟨pre, e, A0, c0, (Below.heap_setCell w1 ⟨bp, 0, none⟩ u g (by show g ≠ bp; omega)).trans hG, by rw [hs]; exact hg, ?_⟩, ?_, h.l, h.s⟩
  · refine Kd.C_foot_ne (fun hK => ?_) hC (fun ad hA hn hbk => ?_) _ ((KeepBut.refl w0 bp none).set_ 0 u)
    · rw [k101_open hK]
      exact ⟨_, _, rfl, rfl, rfl⟩
    · obtain ⟨ad2, e2, x0, x1⟩ := at_T101 hC 0 (Int.le_refl _) (by omega)
      rw [e2] at hA
      injection hA with hA
      subst hA
      have e3 : ad2.add ((0 : Int).toNat * 2) = ad2 := by unfold Addr.add; rfl
      rw [e3] at x0
      have e4 : w0.cell? ad2 = #[Value.slice A l c][ad2.off]? := by
        have h0 := (ad_spot (by rw [show ad2.add 0 = ad2 from by unfold Addr.add; rfl]; exact x0)).1
        rw [h0, hbk]
        exact blk_cell hb0 ad2.off
      rw [e4] at x0
      cases ho : ad2.off with
      | zero => rw [ho] at x0; simp at x0
      | succ j => rw [ho] at x0; simp at x0
  · refine ⟨h.b.os, h.b.tape, h.b.output, by rw [hs]; simpa [World.setCell] using h.b.size, fun k hk => ?_⟩
    rw [hs] at hk
    by_cases e : k = bp
    · subst e
      rw [blk_put hb 0 u rfl, blk_put hb0 0 u rfl]
    · rw [Below.heap_setCell _ ⟨bp, 0, none⟩ u k e, Below.heap_setCell _ ⟨bp, 0, none⟩ u k e]
      exact h.b.block k hk
structure TPAt (g bp be B : Nat) (tl ts : List Tk) (fs : List SF) (v : Value) (en n : Int) (w w' : World) : Prop where
  p : ∃ w0, w0.heap.size = B ∧ PAt g tl ts en n w0 w'
  bel : Below w.heap.size w w'
  l2 : w.heap.size ≤ bp
  l3 : w.heap.size ≤ be
  ne : bp ≠ be
  b2 : bp < B
  b3 : be < B
  cp : w'.heap[bp]? = some (.cells #[v] 24 (0, 0))
  ce : w'.heap[be]? = some (.cells #[.int .i64 0, .int .i64 0] 28 (0, 0))
  row : Kd.R k34 34 w' B (fun _ => True) v fs
section
variable {g bp be B : Nat} {tl ts us : List Tk} {fs : List SF} {v : Value} {en n m : Int} {w w1 w2 : World}
theorem TPAt.keep_ (h : TPAt g bp be B tl ts fs v en n w w1) {w0 : World} (h0 : w0.heap.size = B) (hp : PAt g tl ts en n w0 w1) (hb : Below w0.heap.size w0 w2) (hk : KeepBut w1 w2 g none) : Below w.heap.size w w2 ∧ w2.heap[bp]? = some (.cells #[v] 24 (0, 0)) ∧ w2.heap[be]? = some (.cells #[.int .i64 0, .int .i64 0] 28 (0, 0)) ∧ Kd.R k34 34 w2 B (fun _ => True) v fs := by
  obtain ⟨cells, hG⟩ := hp.blk
  have h1 := hp.ge
  have h2 := h.b2
  have h3 := h.b3
  have h4 := h.l2
  have hB := h.bel.size
  refine ⟨⟨?_, ?_, ?_, Nat.le_trans hB hk.1, fun k hkk => (hk.2 k (by omega) (by omega) (by simp)).trans (h.bel.block k hkk)⟩, hk.blk h.cp (by omega) (by simp), hk.blk h.ce (by omega) (by simp), row_keep h.row hG (by decide) hk⟩
  · rw [hb.os, ← hp.b.os, h.bel.os]
  · rw [hb.tape, ← hp.b.tape, h.bel.tape]
  · rw [hb.output, ← hp.b.output, h.bel.output]
theorem TPAt.call (h : TPAt g bp be B tl ts fs v en n w w1) {w0 : World} (h0 : w0.heap.size = B) (hp : PAt g tl ts en n w0 w1) (hp2 : PAt g tl us en m w0 w2) (hk : KeepBut w1 w2 g none) : TPAt g bp be B tl us fs v en m w w2 := by
  obtain ⟨q1, q2, q3, q4⟩ := h.keep_ h0 hp hp2.b hk
  exact ⟨⟨w0, h0, hp2⟩, q1, h.l2, h.l3, h.ne, h.b2, h.b3, q2, q3, q4⟩
theorem TPAt.below (h : TPAt g bp be B tl ts fs v en n w w1) (hb : Below w1.heap.size w1 w2) : TPAt g bp be B tl ts fs v en n w w2 := by
  obtain ⟨w0, h0, hp⟩ := h.p
  exact h.call h0 hp (hp.below hb) (KeepBut.of_below hb g none)
theorem TPAt.app (h : TPAt g bp be B tl ts fs v en n w w1) {fs' : List SF} {v1 : Value} (hr : Kd.R k34 34 w2 B (fun _ => True) v1 fs') (hg : w1.grownBy w2 v.ownBlock) : TPAt g bp be B tl ts fs' v1 en n w (w2.setCell ⟨bp, 0, none⟩ v1) := by
  obtain ⟨w0, h0, hp⟩ := h.p
  obtain ⟨cells, hG⟩ := hp.blk
  have hx := (hg.block bp (blk_lt h.cp) (Kd.R_ne h.row h.cp (by decide))).trans h.cp
  have hy := (hg.block be (blk_lt h.ce) (Kd.R_ne h.row h.ce (by decide))).trans h.ce
  obtain ⟨A, c, e⟩ := Kd.R_slice h.row
  have hp2 := hp.grown hg (Kd.R_ne h.row hG (by decide)) (fun k e => by rw [h0]; exact Kd.R_base h.row k e)
  have h2 := h.b2
  have h4 := h.bel.size
  have hlw : w.heap.size ≤ B := Nat.le_trans h.l2 (Nat.le_of_lt h.b2)
  refine ⟨⟨w0.setCell ⟨bp, 0, none⟩ v1, by simpa [World.setCell] using h0, hp2.rebase (by omega) (by rw [e] at hx; exact hx) v1⟩, below_set (pw_below_grown h.bel v.ownBlock h.bel.size hg (fun k e => Nat.le_trans hlw (Kd.R_base h.row k e))) h.l2, h.l2, h.l3, h.ne, h.b2, h.b3, blk_put hx 0 _ rfl, (Below.heap_setCell w2 ⟨bp, 0, none⟩ v1 be h.ne.symm).trans hy, Kd.R_set hr hx (by decide) 0 _⟩
end
theorem catch_idle (bp be : Nat) (w : World) : CallsD Try.prog 57 #[.pointer (some ⟨bp, 0, none⟩), .pointer (some ⟨be, 0, none⟩)] .returning w fun e u' w' => e = .returned (.tuple #[]) ∧ u' = .returning ∧ w' = w := by
  refine callsD_of_wpS Try.func57 rfl fun c₀ cs hu => ?_
  apply wpS_seq
  apply wpS_region
  simp [wpOpsS, go_sem, recoverD, hu, Try.ntmps57, Exit.thenS]
  apply wpS_seq
  apply wpS_region
  simp [wpOpsS, go_sem, Exit.thenS]
  refine wpS_cond (t := false) (by simp [Act.eval, Array.replicate]) ?_
  simp only [Bool.false_eq_true, if_false]
  refine wpS_of_wp (wp_skip ?_)
  cases c₀
  simp_all [bodyPostS, results, Try.results57]
set_option maxHeartbeats 4000000 in
set_option maxRecDepth 100000 in
theorem catch_panics (c a : Int) (bp be : Nat) (vp x y : Value) (w : World) (hp : w.heap[bp]? = some (.cells #[vp] 24 (0, 0))) (he : w.heap[be]? = some (.cells #[x, y] 28 (0, 0))) :
    CallsD Try.prog 57 #[.pointer (some ⟨bp, 0, none⟩), .pointer (some ⟨be, 0, none⟩)] (.panicking (boom c a)) w fun e u' w' => e = .returned (.tuple #[]) ∧ u' = .panicking [{ v := .iface 84 (.agg #[.int .i64 c, .int .i64 a]), recovered := true }] ∧
      w' = ((w.drew.setCell ⟨bp, 0, none⟩ (.slice none 0 0)).setCell ⟨be, 0, none⟩ (.int .i64 c)).setCell ⟨be, 1, none⟩ (.int .i64 a) := by
  have hu24 := Try.underlying24
  have hu28 := Try.underlying28
  have hta : ∀ (u : Value) (W : World), (Instr.typeAssert (.iface 84 u) 20 84 false).run Try.prog W = .ok u W := fun _ _ => by show _ = _; kernel_rfl
  have hfl : ∀ (u0 u1 : Value) (W : World), (Instr.field 84 (.agg #[u0, u1]) 0).run Try.prog W = .ok (.agg #[u0, u1]) W := fun _ _ _ => by show _ = _; kernel_rfl
  have hne : bp ≠ be := blk_ne hp he (by decide)
  have hne2 : be ≠ bp := hne.symm
  have y0 : w.drew.cell? ⟨bp, 0, none⟩ = some vp := blk_cell hp 0
  have f0 : w.drew.frozen? ⟨bp, 0, none⟩ = false := blk_frozen hp 0
  have y1 : w.drew.cell? ⟨be, 0, none⟩ = some x := blk_cell he 0
  have f1 : w.drew.frozen? ⟨be, 0, none⟩ = false := blk_frozen he 0
  have y2 : w.drew.cell? ⟨be, 1, none⟩ = some y := blk_cell he 1
  have f2 : w.drew.frozen? ⟨be, 1, none⟩ = false := blk_frozen he 1
  have y0' : w.cell? ⟨bp, 0, none⟩ = some vp := blk_cell hp 0
  have f0' : w.frozen? ⟨bp, 0, none⟩ = false := blk_frozen hp 0
  have y1' : w.cell? ⟨be, 0, none⟩ = some x := blk_cell he 0
  have f1' : w.frozen? ⟨be, 0, none⟩ = false := blk_frozen he 0
  have y2' : w.cell? ⟨be, 1, none⟩ = some y := blk_cell he 1
  have f2' : w.frozen? ⟨be, 1, none⟩ = false := blk_frozen he 1
  refine callsD_of_wpS Try.func57 rfl fun c₀ cs hu => ?_
  unfold boom at hu
  simp only [Try.ntmps57, List.size_toArray, List.length_cons, List.length_nil, Nat.reduceAdd, Nat.reduceSub, Array.replicate_succ, Array.replicate_zero, List.push_toArray, List.append_toArray, List.nil_append, List.cons_append]
  apply wpS_seq
  apply wpS_region
  simp [wpOpsS, go_sem, recoverD, hu, Try.ntmps57, Exit.thenS]
  apply wpS_seq
  apply wpS_region
  simp [wpOpsS, go_sem, Exit.thenS]
  refine wpS_cond (t := true) (by simp [Act.eval, Array.replicate]) ?_
  simp only [if_true]
  refine wpS_of_wp ?_
  (try simp only [Act.put, List.setIfInBounds_toArray, List.set_cons_zero, List.set_cons_succ])
  refine start_ (n := 6) (S := fun w' => True) (ds := [5]) #[false, false, false, false, false, false] (by kernel_rfl) rfl rfl trivial (fun hHeld => ?_)
  refine pure_ (i := 0) (N := some 6) (v := ?_) (a' := ?_) #[true, false, false, false, false, false] rfl rfl (by kernel_rfl) (fun _ _ _ h => h) (Or.inl ⟨by rfl, ?_⟩) ?_ ?_
  rotate_left
  · intro w'
    go_simp
    with_reducible rfl
  rotate_left
  · simp only [Act.put, List.setIfInBounds_toArray, List.set_cons_zero, List.set_cons_succ, i64_w, i32_w]
    rfl
  refine pure_ (i := 1) (N := some 7) (v := ?_) (a' := ?_) #[true, true, false, false, false, false] rfl rfl (by kernel_rfl) (fun _ _ _ h => h) (Or.inl ⟨by rfl, ?_⟩) ?_ ?_
  rotate_left
  · intro w'
    go_simp
    with_reducible rfl
  rotate_left
  · simp only [Act.put, List.setIfInBounds_toArray, List.set_cons_zero, List.set_cons_succ, i64_w, i32_w]
    rfl
  refine pure_ (i := 2) (N := some 8) (v := ?_) (a' := ?_) #[true, true, true, false, false, false] rfl rfl (by kernel_rfl) (fun _ _ _ h => h) (Or.inl ⟨by rfl, ?_⟩) ?_ ?_
  rotate_left
  · intro w'
    go_simp
    with_reducible rfl
  rotate_left
  · simp only [Act.put, List.setIfInBounds_toArray, List.set_cons_zero, List.set_cons_succ, i64_w, i32_w]
    rfl
  refine pure_ (i := 3) (N := some 9) (v := ?_) (a' := ?_) #[true, true, true, true, false, false] rfl rfl (by kernel_rfl) (fun _ _ _ h => h) (Or.inl ⟨by rfl, ?_⟩) ?_ ?_
  rotate_left
  · intro w'
    go_simp
    with_reducible rfl
  rotate_left
  · simp only [Act.put, List.setIfInBounds_toArray, List.set_cons_zero, List.set_cons_succ, i64_w, i32_w]
    rfl
  refine one_ (i := 4) (N := none) #[true, true, true, true, true, false] rfl rfl (by kernel_rfl) (by decide) (fun K hK => ?_)
  refine skip_ (w1 := ?_) (by rfl) rfl ?_ ?_
  rotate_left
  · go_simp
    rfl
  refine hK.out _ _ trivial (fun hHeld => ?_)
  clear hK K
  refine last_ (i := 5) (N := none) #[true, true, true, true, true, true] rfl rfl (by kernel_rfl) (by decide) (fun K hK => ?_)
  refine skip_ (w1 := ?_) (by rfl) rfl ?_ ?_
  rotate_left
  · go_simp
    rfl
  refine hK.out _ _ ?_
  clear hK K
  refine done_ (by kernel_rfl) ?_
  exact ⟨rfl, _, rfl, _, results_none rfl _ _ _, rfl, rfl, rfl⟩
theorem leaves_ret {P : Program} {fn : Func} {R : Ending → World → Prop} {tm : Array Value} {w : World} {v : Value} (h : (results fn tm).run P w = .ok v w) (hR : R (.returned v) w) : bodyPostD P fn R .ret { tmps := tm, defers := [] } w := ⟨v, h, hR⟩
theorem leaves_settled {P : Program} {fn : Func} {R : Ending → World → Prop} {tm : Array Value} {w : World} {v x : Value} (h : (results fn tm).run P w = .ok v w) (hR : R (.returned v) w) : Leaves P fn tm R [] (settle (.panicking [{ v := x, recovered := true }])) w := ⟨v, h, hR⟩
theorem leaves_plain {P : Program} {fn : Func} {R : Ending → World → Prop} {tm : Array Value} {w : World} {v : Value} (h : (results fn tm).run P w = .ok v w) (hR : R (.returned v) w) : Leaves P fn tm R [] (settle .returning) w := ⟨v, h, hR⟩
theorem leaves_tmps {P : Program} {fn : Func} {R : Ending → World → Prop} {t1 t2 : Array Value} (he : results fn t1 = results fn t2) : ∀ (ds : List Deferred) (u : FrameMode) (w : World), Leaves P fn t1 R ds u w → Leaves P fn t2 R ds u w
  | [], .returning, w, ⟨v, h, hr⟩ => ⟨v, he ▸ h, hr⟩
  | [], .panicking c, w, h => h
  | [], .run, _, h => h.elim
  | d :: ds, u, w, h => by
    obtain ⟨h1, fv, cap, f, args, h2, h3, h4⟩ := h
    refine ⟨h1, fv, cap, f, args, h2, h3, h4.mono (fun e u' w' hh => ?_)⟩
    cases e with
    | returned v => exact leaves_tmps he ds _ _ hh
    | panicked c => exact leaves_tmps he ds _ _ hh
    | outgrown => exact hh
theorem leaves_put {R : Ending → World → Prop} (i : Nat) (h2 : i ≠ 2) (h3 : i ≠ 3) {a : Act} {v : Value} {c : List PanicEntry} {w : World} (h : bodyPostD Try.prog Try.f21 R (.panic c) (a.put (some i) v) w) : bodyPostD Try.prog Try.f21 R (.panic c) a w := by
  have e2 : (a.tmps.setIfInBounds i v)[2]? = a.tmps[2]? := Array.getElem?_setIfInBounds_ne h2
  have e3 : (a.tmps.setIfInBounds i v)[3]? = a.tmps[3]? := Array.getElem?_setIfInBounds_ne h3
  refine leaves_tmps ?_ a.defers _ w h
  show results _ (a.tmps.setIfInBounds i v) = results _ a.tmps
  simp [results, Try.results21, e2, e3]
theorem PAt.more {g : Nat} {tl ts : List Tk} {en n : Int} {w0 w1 : World} (h : PAt g tl ts en n w0 w1) : ∃ a : Int, w1.cell? ⟨g, 1, none⟩ = some (.int .i64 a) ∧ (ts = [] → decide (a < (tl.length : Int)) = false) ∧ (ts ≠ [] → decide (a < (tl.length : Int)) = true) := by
  obtain ⟨pre, e, A0, c0, hG, -, -⟩ := h.i
  refine ⟨_, blk_cell hG 1, fun e2 => decide_eq_false (by rw [e, e2]; simp), fun e2 => decide_eq_true ?_⟩
  cases ts with
  | nil => exact absurd rfl e2
  | cons t us =>
    rw [e, List.length_append, List.length_cons]
    omega
theorem set3_ {W : World} {bp be : Nat} (hne : bp ≠ be) {vp x y : Value} (hp : W.heap[bp]? = some (.cells #[vp] 24 (0, 0))) (he : W.heap[be]? = some (.cells #[x, y] 28 (0, 0))) (v c a : Value) :
    (((W.setCell ⟨bp, 0, none⟩ v).setCell ⟨be, 0, none⟩ c).setCell ⟨be, 1, none⟩ a).heap[bp]? = some (.cells #[v] 24 (0, 0)) ∧ (((W.setCell ⟨bp, 0, none⟩ v).setCell ⟨be, 0, none⟩ c).setCell ⟨be, 1, none⟩ a).heap[be]? = some (.cells #[c, a] 28 (0, 0)) :=
  ⟨(Below.heap_setCell _ ⟨be, 1, none⟩ _ _ hne).trans ((Below.heap_setCell _ ⟨be, 0, none⟩ _ _ hne).trans (blk_put hp 0 _ rfl)), blk_put (blk_put ((Below.heap_setCell _ ⟨bp, 0, none⟩ _ _ hne.symm).trans he) 0 _ rfl) 1 _ rfl⟩
set_option maxHeartbeats 8000000 in
set_option maxRecDepth 100000 in
theorem parse_Text.calls (s : ByteArray) (r1 : List SF) (r2 r3 : Int) (w : World) (h : parse_Text.f s = some (r1, r2, r3)) :
    Calls Try.prog 21 #[.string s] w fun e w' => ∃ v0_ : Value, e = .returned (.tuple #[.agg #[v0_], .agg #[.int .i64 r2, .int .i64 r3]]) ∧ Kd.R k34 34 w' w.heap.size (fun _ => True) v0_ r1 ∧ Below w.heap.size w w' := by
  have hu24 := Try.underlying24
  have hu28 := Try.underlying28
  have hu34 := Try.underlying34
  have hu82 := Try.underlying82
  have hmf : ∀ (fn : Fn) (first cap : Array Value) (w : World), (Instr.makeFunc fn first cap).run Try.prog w = .ok (.func fn first cap) w := fun _ _ _ _ => rfl
  unfold parse_Text.f at h
  by_cases hf : fewT (splitL s).1 = true
  rotate_left
  · rw [if_neg hf] at h
    cases h
  rw [if_pos hf] at h
  replace h := Option.some.inj h
  unfold parseP at h
  have hs : token_Split.f s = some (splitL s) := rfl
  generalize splitL s = q at h hf hs
  obtain ⟨tl, t2, t3⟩ := q
  have HS := Aside0.mk hs
  have HH := Aside0.mk h
  unfold fewT at hf
  rw [Bool.and_eq_true, decide_eq_true_iff, List.all_eq_true] at hf
  have HFW := Aside0.mk (show tl.length ≤ 65536 ∧ ∀ t ∈ tl, t.f0.size ≤ 65536 from ⟨hf.1, fun t ht => of_decide_eq_true (hf.2 t ht)⟩)
  clear hs h hf
  go_enter_defers Try.func21, Try.ntmps21
  have hz2 := blk_alloc (blk_new w (.cells #[.slice none 0 0] 24)) (.cells #[.int .i64 0, .int .i64 0] 28)
  have hz3 := blk_new (w.alloc (.cells #[.slice none 0 0] 24)) (.cells #[.int .i64 0, .int .i64 0] 28)
  have hsz : (w.alloc (.cells #[.slice none 0 0] 24)).heap.size = w.heap.size + 1 := by simp
  rw [hsz] at hz3
  have hb0 := below_alloc (below_alloc (Below.refl w.heap.size w) (.cells #[.slice none 0 0] 24)) (.cells #[.int .i64 0, .int .i64 0] 28)
  clear hsz
  go_upto_region 1 with (fail)
  generalize (w.alloc (.cells #[.slice none 0 0] 24)).alloc (.cells #[.int .i64 0, .int .i64 0] 28) = W0 at hz2 hz3 hb0 ⊢
  have HZ2 := Aside0.mk hz2
  have HZ3 := Aside0.mk hz3
  have HB := Aside0.mk hb0
  clear hz2 hz3 hb0
  go_wp2_with fail
  refine (token_Split.calls s tl t2 t3 _ HS.out).mono ?_
  rintro e w1 ⟨v0, rfl, hr1, hb1⟩
  obtain ⟨A0, c0, e0, hl0, hC0⟩ := Kd.R_reads hr1
  subst e0
  have hbx := below_alloc (Below.refl w1.heap.size w1) (.cells #[.int .i64 t2, .int .i64 t3] 28)
  have HBE := Aside0.mk (blk_new w1 (.cells #[.int .i64 t2, .int .i64 t3] 28))
  have HY2 := Aside0.mk (blk_below (blk_below HZ2.out hb1) hbx)
  have HY3 := Aside0.mk (blk_below (blk_below HZ3.out hb1) hbx)
  have HB1 := Aside0.mk (below_step (below_step HB.out hb1) hbx)
  have HC := Aside0.mk (Kd.C_below hC0 hbx)
  have HLT := Aside0.mk (show w.heap.size + 1 < w1.heap.size from blk_lt (blk_below HZ3.out hb1))
  clear hr1 hb1 hl0 hC0 hbx
  go_upto_if 14 with (fail)
  (try simp only [Act.put, List.setIfInBounds_toArray, List.set_cons_zero, List.set_cons_succ])
  generalize w1.alloc (.cells #[.int .i64 t2, .int .i64 t3] 28) = W1 at HBE HY2 HY3 HB1 HC ⊢
  have h := HH.out
  have k0_ := blk_cell HBE.out 0
  have k1_ := blk_cell HBE.out 1
  by_cases ct : t2 = 0
  rotate_left
  · rw [if_neg ct] at h
    have ct1 : (t2 != 0) = true := bne_iff_ne.mpr ct
    (first | rw [ct1] | (simp only [i64_w, i32_w]; rw [ct1]) | skip)
    simp only [Prod.mk.injEq] at h
    obtain ⟨rfl, rfl, rfl⟩ := h
    clear ct
    have n1 : w1.heap.size ≠ w.heap.size := by have := HLT.out; omega
    have n2 : w1.heap.size ≠ w.heap.size + 1 := by have := HLT.out; omega
    go_upto_region 3 with (fail)
    have z0_ : W1.drew.cell? ⟨w.heap.size, 0, none⟩ = some (.slice none 0 0) := (blk_cell HY2.out 0)
    have f0_ : W1.drew.frozen? ⟨w.heap.size, 0, none⟩ = false := blk_frozen HY2.out 0
    have y0_ : W1.drew.cell? ⟨w.heap.size + 1, 0, none⟩ = some (.int .i64 0) := (blk_cell HY3.out 0)
    have y1_ : W1.drew.cell? ⟨w.heap.size + 1, 1, none⟩ = some (.int .i64 0) := (blk_cell HY3.out 1)
    have g0_ : W1.drew.frozen? ⟨w.heap.size + 1, 0, none⟩ = false := blk_frozen HY3.out 0
    have g1_ : W1.drew.frozen? ⟨w.heap.size + 1, 1, none⟩ = false := blk_frozen HY3.out 1
    have y0'_ : W1.cell? ⟨w.heap.size + 1, 0, none⟩ = some (.int .i64 0) := (blk_cell HY3.out 0)
    have y1'_ : W1.cell? ⟨w.heap.size + 1, 1, none⟩ = some (.int .i64 0) := (blk_cell HY3.out 1)
    have g0'_ : W1.frozen? ⟨w.heap.size + 1, 0, none⟩ = false := blk_frozen HY3.out 0
    have g1'_ : W1.frozen? ⟨w.heap.size + 1, 1, none⟩ = false := blk_frozen HY3.out 1
    refine start_ (n := 4) (S := fun w' => w'.cell? ⟨w1.heap.size, 0, none⟩ = some (.int .i64 t2) ∧ w'.cell? ⟨w1.heap.size, 1, none⟩ = some (.int .i64 t3)) (ds := [3]) #[false, false, false, false] (by kernel_rfl) rfl rfl ⟨k0_, k1_⟩ (fun hHeld => ?_)
    refine pure_ (i := 0) (N := some 15) (v := ?_) (a' := ?_) #[true, false, false, false] rfl rfl (by kernel_rfl) (fun _ _ _ h => leaves_put 15 (by decide) (by decide) h) (Or.inl ⟨by rfl, ?_⟩) ?_ ?_
    rotate_left
    · intro w'
      go_simp
      with_reducible rfl
    rotate_left
    · simp only [Act.put, List.setIfInBounds_toArray, List.set_cons_zero, List.set_cons_succ, i64_w, i32_w]
      rfl
    refine take_ (i := 1) (N := some 16) (v := ?_) (a' := ?_) #[true, true, false, false] rfl rfl (by kernel_rfl) (fun _ _ _ h => leaves_put 16 (by decide) (by decide) h) (Or.inl ⟨by rfl, ?_⟩) hHeld ?_ ?_
    rotate_left
    · rintro w' ⟨s0, s1⟩
      go_simp
      with_reducible rfl
    rotate_left
    · simp only [Act.put, List.setIfInBounds_toArray, List.set_cons_zero, List.set_cons_succ, i64_w, i32_w]
      rfl
    refine one_ (i := 2) (N := none) #[true, true, true, false] rfl rfl (by kernel_rfl) (by decide) (fun K hK => ?_)
    refine skip_ (w1 := ?_) (by rfl) rfl ?_ ?_
    rotate_left
    · go_simp
      rfl
    refine hK.out _ _ ⟨((blk_cell ((Below.heap_setCell W1.drew ⟨w.heap.size, 0, none⟩ (.slice none 0 0) w1.heap.size n1).trans (show W1.drew.heap[w1.heap.size]? = _ from HBE.out)) 0).trans rfl), ((blk_cell ((Below.heap_setCell W1.drew ⟨w.heap.size, 0, none⟩ (.slice none 0 0) w1.heap.size n1).trans (show W1.drew.heap[w1.heap.size]? = _ from HBE.out)) 1).trans rfl)⟩ (fun hHeld => ?_)
    clear hK K
    refine last_ (i := 3) (N := none) #[true, true, true, true] rfl rfl (by kernel_rfl) (by decide) (fun K hK => ?_)
    refine skip_ (w1 := ?_) (by rfl) rfl ?_ ?_
    rotate_left
    · go_simp
      rfl
    refine hK.out _ _ ?_
    clear hK K
    refine done_ (by kernel_rfl) ?_
    go_wp2
    (try simp only [Exit.inBlock, Exit.then])
    have hq := set3_ (W := W1.drew) (by omega) (show W1.drew.heap[w.heap.size]? = _ from HY2.out) (show W1.drew.heap[w.heap.size + 1]? = _ from HY3.out) (.slice none 0 0) (.int .i64 t2) (.int .i64 t3)
    refine leaves_ret (results_cc rfl _ _ w.heap.size (w.heap.size + 1) 24 28 #[.slice none 0 0] #[.int .i64 t2, .int .i64 t3] (0, 0) (0, 0) _ _ rfl hq.1 Try.underlying24 rfl (by kernel_rfl) rfl hq.2 Try.underlying28 rfl (by kernel_rfl)) ?_
    exact ⟨_, rfl, Kd.R_nil _ _ _ _ _, below_set (below_set (below_set (below_drew1 HB1.out) (Nat.le_refl _)) (Nat.le_succ _)) (Nat.le_succ _)⟩
  rw [if_pos ct] at h
  have ct1 : (t2 != 0) = false := bne_eq_false_iff_eq.mpr ct
  (first | rw [ct1] | (simp only [i64_w, i32_w]; rw [ct1]) | skip)
  obtain ⟨Rx, hR⟩ : ∃ Rx, textP (s.size : Int) (tl.length + 1) [] 0 tl = Rx := ⟨_, rfl⟩
  rw [hR] at h
  have HR := Aside0.mk h
  have HF := Aside0.mk hR
  clear ct h hR HH k0_ k1_
  have hb2 := below_alloc (Below.refl W1.heap.size W1) (.cells #[.slice A0 tl.length c0, .int .i64 0, .int .i64 (s.size : Int), .int .i64 0] 82)
  have HX := Aside0.mk (show TPAt W1.heap.size w.heap.size (w.heap.size + 1) W1.heap.size tl tl [] (.slice none 0 0) (s.size : Int) 0 w (W1.alloc (.cells #[.slice A0 tl.length c0, .int .i64 0, .int .i64 (s.size : Int), .int .i64 0] 82)) from
    ⟨⟨W1, rfl, ⟨⟨[], rfl, IsS82.new W1 W1 A0 c0 tl 0 (s.size : Int) 0 (Below.refl _ _) HC.out⟩, hb2, HFW.out.1, HFW.out.2⟩⟩, below_step HB1.out hb2, Nat.le_refl _, Nat.le_succ _, by omega, blk_lt HY2.out, blk_lt HY3.out, blk_below HY2.out hb2, blk_below HY3.out hb2, Kd.R_nil _ _ _ _ _⟩)
  clear hb2
  go_upto_region 5 with (fail)
  (try simp only [Act.put, List.setIfInBounds_toArray, List.set_cons_zero, List.set_cons_succ])
  generalize W1.alloc (.cells #[.slice A0 tl.length c0, .int .i64 0, .int .i64 (s.size : Int), .int .i64 0] 82) = W2 at HX ⊢
  generalize W1.heap.size = g at HX ⊢
  clear HBE HY2 HY3 HB1 HC HLT HZ2 HZ3 HB HS ct1
  go_wp2
  (try simp only [Act.put, List.setIfInBounds_toArray, List.set_cons_zero, List.set_cons_succ])
  go_loopg [] (tl.length + 1) (fun kq w' => ∃ (fs : List SF) (ts : List Tk) (n : Int) (v : Value), Aside0 (textP (s.size : Int) kq fs n ts = Rx) ∧ Aside0 (ts.length < kq ∧ 0 ≤ n ∧ n ≤ 4096) ∧ Aside0 (TPAt g w.heap.size (w.heap.size + 1) g tl ts fs v (s.size : Int) n w w'))
  case atStart => exact ⟨[], tl, 0, _, HF, ⟨Nat.lt_succ_self _, by omega, by omega⟩, HX⟩
  case round =>
    clear HX HF
    obtain ⟨fs, ts, n, v, HF, HLN, HX⟩ := hrel
    obtain ⟨A7, c7, e7⟩ := Kd.R_slice HX.out.row
    subst e7
    cases gk with
    | zero => exact absurd HLN.out.1 (by omega)
    | succ k1 =>
      have hl := HF.out
      simp only [textP] at hl
      obtain ⟨w0, h0, hp⟩ := HX.out.p
      obtain ⟨a_, x1, d0, d1⟩ := hp.more
      have H0 := Aside0.mk h0
      have HP := Aside0.mk hp
      clear HF h0 hp
      by_cases ce : ts = []
      · rw [if_pos ce] at hl
        have dd := d0 ce
        have hr := HR.out
        rw [← hl] at hr
        simp only [Prod.mk.injEq] at hr
        obtain ⟨rfl, rfl, rfl⟩ := hr
        have z0_ := blk_cell HX.out.cp 0
        have f0_ := blk_frozen HX.out.cp 0
        have y0_ := blk_cell HX.out.ce 0
        have y1_ := blk_cell HX.out.ce 1
        have g0_ := blk_frozen HX.out.ce 0
        have g1_ := blk_frozen HX.out.ce 1
        clear ce d0 d1 hl HR
        go_wp2
        (try simp only [Exit.inBlock, Exit.then])
        refine leaves_cons (f := 57) (args := #[.pointer (some ⟨w.heap.size, 0, none⟩), .pointer (some ⟨w.heap.size + 1, 0, none⟩)]) (by simp) (by simp [go_sem]) ?_
        refine (catch_idle _ _ _).mono ?_
        rintro e u' w'' ⟨rfl, rfl, rfl⟩
        have hq := set3_ HX.out.ne HX.out.cp HX.out.ce (.slice A7 fs.length c7) (.int .i64 0) (.int .i64 0)
        refine leaves_plain (results_cc rfl _ _ w.heap.size (w.heap.size + 1) 24 28 #[.slice A7 fs.length c7] #[.int .i64 0, .int .i64 0] (0, 0) (0, 0) _ _ rfl hq.1 Try.underlying24 rfl (by kernel_rfl) rfl hq.2 Try.underlying28 rfl (by kernel_rfl)) ?_
        refine ⟨_, rfl, ?_, below_set (below_set (below_set HX.out.bel (Nat.le_refl _)) (Nat.le_succ _)) (Nat.le_succ _)⟩
        refine Kd.R_lower (Kd.R_set (Kd.R_set (Kd.R_set HX.out.row HX.out.cp (by decide) 0 _) ((Below.heap_setCell _ ⟨w.heap.size, 0, none⟩ _ _ HX.out.ne.symm).trans HX.out.ce) (by decide) 0 _) (blk_put ((Below.heap_setCell _ ⟨w.heap.size, 0, none⟩ _ _ HX.out.ne.symm).trans HX.out.ce) 0 _ rfl) (by decide) 1 _) ?_
        have := HX.out.b2
        omega
      rw [if_neg ce] at hl
      have dd := d1 ce
      have z0_ := blk_cell HX.out.cp 0
      clear ce d0 d1
      by_cases h32 : fs.length ≥ 32
      · rw [if_pos h32] at hl
        subst hl
        have hr := HR.out
        simp only [failP, Prod.mk.injEq] at hr
        obtain ⟨rfl, rfl, rfl⟩ := hr
        have d2 : decide (32 ≤ (fs.length : Int)) = true := decide_eq_true (by omega)
        clear h32 HR
        go_wp2_with fail
        refine (fail_calls (c := 6) HP.out).mono ?_
        rintro e w9 ⟨rfl, hb_, hk_⟩
        have HZ := Aside0.mk (HX.out.keep_ H0.out HP.out hb_ hk_)
        clear hb_ hk_ x1 z0_ dd d2
        go_wp2
        (try simp only [Exit.inBlock, Exit.then])
        refine leaves_cons (f := 57) (args := #[.pointer (some ⟨w.heap.size, 0, none⟩), .pointer (some ⟨w.heap.size + 1, 0, none⟩)]) (by simp) (by simp [go_sem]) ?_
        refine (catch_panics _ _ _ _ _ _ _ _ HZ.out.2.1 HZ.out.2.2.1).mono ?_
        rintro e u' w'' ⟨rfl, rfl, rfl⟩
        have hq := set3_ (W := World.drew _) HX.out.ne (show (World.drew _).heap[w.heap.size]? = _ from HZ.out.2.1) (show (World.drew _).heap[w.heap.size + 1]? = _ from HZ.out.2.2.1) (.slice none 0 0) (.int .i64 6) (.int .i64 (hereP (s.size : Int) ts))
        refine leaves_settled (results_cc rfl _ _ w.heap.size (w.heap.size + 1) 24 28 #[.slice none 0 0] #[.int .i64 6, .int .i64 (hereP (s.size : Int) ts)] (0, 0) (0, 0) _ _ rfl hq.1 Try.underlying24 rfl (by kernel_rfl) rfl hq.2 Try.underlying28 rfl (by kernel_rfl)) ?_
        exact ⟨_, rfl, Kd.R_nil _ _ _ _ _, below_set (below_set (below_set (below_drew1 HZ.out.1) (Nat.le_refl _)) (Nat.le_succ _)) (Nat.le_succ _)⟩
      rw [if_neg h32] at hl
      have d2 : decide (32 ≤ (fs.length : Int)) = false := decide_eq_false (by omega)
      have HL := Aside0.mk hl
      have H32 := Aside0.mk h32
      clear h32 hl
      go_upto_region 9 with (fail)
      clear x1 z0_ dd d2
      have HXd := Aside0.mk (HX.out.below (below_drew1 (Below.refl _ _)))
      have HPd := Aside0.mk (HP.out.below (below_drew1 (Below.refl _ _)))
      refine start_ (n := 8) (S := fun w' => w'.cell? ⟨w.heap.size, 0, none⟩ = some (.slice A7 fs.length c7)) (ds := [7]) #[false, false, false, false, false, false, false, false] (by kernel_rfl) rfl rfl ((blk_cell HXd.out.cp 0)) (fun hHeld => ?_)
      refine pure_ (i := 0) (N := some 36) (v := ?_) (a' := ?_) #[true, false, false, false, false, false, false, false] rfl rfl (by kernel_rfl) (fun _ _ _ h => leaves_put 36 (by decide) (by decide) h) (Or.inl ⟨by rfl, ?_⟩) ?_ ?_
      rotate_left
      · intro w'
        go_simp
        with_reducible rfl
      rotate_left
      · simp only [Act.put, List.setIfInBounds_toArray, List.set_cons_zero, List.set_cons_succ, i64_w, i32_w]
        rfl
      refine pure_ (i := 2) (N := some 38) (v := ?_) (a' := ?_) #[true, false, true, false, false, false, false, false] rfl rfl (by kernel_rfl) (fun _ _ _ h => leaves_put 38 (by decide) (by decide) h) (Or.inl ⟨by rfl, ?_⟩) ?_ ?_
      rotate_left
      · intro w'
        go_simp
        with_reducible rfl
      rotate_left
      · simp only [Act.put, List.setIfInBounds_toArray, List.set_cons_zero, List.set_cons_succ, i64_w, i32_w]
        rfl
      refine take_ (i := 1) (N := some 37) (v := ?_) (a' := ?_) #[true, true, true, false, false, false, false, false] rfl rfl (by kernel_rfl) (fun _ _ _ h => leaves_put 37 (by decide) (by decide) h) (Or.inl ⟨by rfl, ?_⟩) hHeld ?_ ?_
      rotate_left
      · intro w' s0
        go_simp
        with_reducible rfl
      rotate_left
      · simp only [Act.put, List.setIfInBounds_toArray, List.set_cons_zero, List.set_cons_succ, i64_w, i32_w]
        rfl
      refine one_ (i := 3) (N := some 39) #[true, true, true, true, false, false, false, false] rfl rfl (by kernel_rfl) (by decide) (fun K hK => ?_)
      refine goesP_ Try.func59 (by kernel_rfl) rfl #[.pointer (some ⟨g, 0, none⟩)] (by rfl) rfl rfl (by simp only [List.map_toArray, List.map_cons, List.map_nil]; rfl) ?_
      with_reducible refine (func_calls g tl ts (s.size : Int) n (by have := HLN.out; omega) w0 _ HPd.out).mono ?_
      rintro e w3_ ⟨⟨hb_, hk_⟩, h_⟩
      have hl := HL.out
      rcases hv : funcP (s.size : Int) n ts with ⟨q1, q2⟩ | ⟨x, m2, ts2⟩
      · rw [hv] at h_ hl
        obtain rfl := h_
        simp only [bind_err] at hl
        subst hl
        have hr := HR.out
        simp only [Prod.mk.injEq] at hr
        obtain ⟨rfl, rfl, rfl⟩ := hr
        have HZ := Aside0.mk (HXd.out.keep_ H0.out HPd.out hb_ hk_)
        clear hb_ hk_ hv
        refine Or.inr ⟨_, rfl, ?_⟩
        (try go_wp2)
        (try simp only [Exit.inBlock, Exit.then])
        refine leaves_cons (f := 57) (args := #[.pointer (some ⟨w.heap.size, 0, none⟩), .pointer (some ⟨w.heap.size + 1, 0, none⟩)]) (by simp) (by simp [go_sem]) ?_
        refine (catch_panics _ _ _ _ _ _ _ _ HZ.out.2.1 HZ.out.2.2.1).mono ?_
        rintro e u' w'' ⟨rfl, rfl, rfl⟩
        have hq := set3_ (W := World.drew _) HX.out.ne (show (World.drew _).heap[w.heap.size]? = _ from HZ.out.2.1) (show (World.drew _).heap[w.heap.size + 1]? = _ from HZ.out.2.2.1) (.slice none 0 0) (.int .i64 q1) (.int .i64 q2)
        refine leaves_settled (results_cc rfl _ _ w.heap.size (w.heap.size + 1) 24 28 #[.slice none 0 0] #[.int .i64 q1, .int .i64 q2] (0, 0) (0, 0) _ _ rfl hq.1 Try.underlying24 rfl (by kernel_rfl) rfl hq.2 Try.underlying28 rfl (by kernel_rfl)) ?_
        exact ⟨_, rfl, Kd.R_nil _ _ _ _ _, below_set (below_set (below_set (below_drew1 HZ.out.1) (Nat.le_refl _)) (Nat.le_succ _)) (Nat.le_succ _)⟩
      have HV_ := Aside0.mk (show ts2.length < ts.length ∧ 0 ≤ m2 ∧ m2 ≤ 4096 from funcP_len hv (by have := HLN.out; omega) (by have := HLN.out; omega))
      rw [hv] at h_ hl
      obtain ⟨⟨v1, v3, rfl, hr1, hr3⟩, hp_⟩ := h_
      obtain ⟨A5, c5, rfl⟩ := Kd.R_slice hr1
      obtain ⟨A6, c6, rfl⟩ := Kd.R_slice hr3
      simp only [bind_ok] at hl
      have HL2 := Aside0.mk hl
      have HX2 := Aside0.mk (HXd.out.call H0.out HPd.out hp_ hk_)
      have hgB : g ≤ w3_.heap.size := by have := HX2.out.row; have h9 := hp_.b.size; have := H0.out; omega
      have HR1 := Aside0.mk (Kd.R_lower hr1 (show g ≤ _ from by have := HPd.out.b.size; have := H0.out; omega))
      have HR3 := Aside0.mk (Kd.R_lower hr3 (show g ≤ _ from by have := HPd.out.b.size; have := H0.out; omega))
      clear hb_ hk_ hp_ hl hv hr1 hr3
      simp only [fOb]
      refine Or.inl ⟨_, rfl, ?_⟩
      refine hK.out _ _ ((blk_cell HX2.out.cp 0)) (fun hHeld => ?_)
      clear hK K
      refine norm_ (a' := ?_) ?_ ?_
      rotate_left
      · show Act.put _ (some 39) _ = _
        simp only [Act.put, List.setIfInBounds_toArray, List.set_cons_zero, List.set_cons_succ, i64_w, i32_w]
        rfl
      refine one_ (i := 4) (N := some 40) #[true, true, true, true, true, false, false, false] rfl rfl (by kernel_rfl) (by decide) (fun K hK => ?_)
      refine value_ (w1 := ?_) (v := ?_) (by rfl) rfl ?_ ?_
      rotate_left 2
      · go_simp
        constructor
        · rfl
        · rfl
      refine hK.out _ _ ((blk_cell (blk_alloc HX2.out.cp (.cells #[.string x.f0, .slice A5 x.f1.length c5, .int .i64 x.f2, .slice A6 x.f3.length c6, .int .i64 x.f4] 34)) 0)) (fun hHeld => ?_)
      clear hK K
      refine norm_ (a' := ?_) ?_ ?_
      rotate_left
      · show Act.put _ (some 40) _ = _
        simp only [Act.put, List.setIfInBounds_toArray, List.set_cons_zero, List.set_cons_succ, i64_w, i32_w]
        rfl
      refine one_ (i := 5) (N := some 41) #[true, true, true, true, true, true, false, false] rfl rfl (by kernel_rfl) (by decide) (fun K hK => ?_)
      refine Kd.R_append_step k34 (w0 := w3_) g (by rfl) (.tmp 37) (.tmp 40) 22 34 (.agg #[.string ⟨#[]⟩, .slice none 0 0, .int .i64 0, .slice none 0 0, .int .i64 0]) 80 rfl Try.underlying22 (by kernel_rfl) rfl (by decide) (by omega) (.slice A7 fs.length c7) fs x [.string x.f0, .slice A5 x.f1.length c5, .int .i64 x.f2, .slice A6 x.f3.length c6, .int .i64 x.f4] (fun _ => True) (fun k => True ∧ some k ≠ (Value.slice A7 fs.length c7).ownBlock) rfl (by first | rfl | (simp; rfl)) (k34_mkM _ _ _ x (Kd.R_apart' HR1.out (Kd.R_typed HX2.out.row) (by decide)) (Kd.R_apart' HR3.out (Kd.R_typed HX2.out.row) (by decide))) (fun k hk => ⟨trivial, hk.2⟩) (fun k hk => trivial) HX2.out.row (Below.refl _ _) hgB (by have := H32.out; omega) ?_
      intro v1 w4_ hr4 hb4 hg4 hv4
      obtain ⟨A8, c8, e8⟩ := Kd.R_slice hr4
      rw [List.length_append, List.length_singleton] at e8
      subst e8
      have B4 := Aside0.mk ((hg4.block w.heap.size (blk_lt HX2.out.cp) (Kd.R_ne HX2.out.row HX2.out.cp (by decide))).trans HX2.out.cp)
      have HX4 := Aside0.mk (HX2.out.app hr4 hg4)
      clear hr4 hb4 hg4 hv4
      refine hK.out _ _ ((blk_cell B4.out 0)) (fun hHeld => ?_)
      clear hK K
      refine norm_ (a' := ?_) ?_ ?_
      rotate_left
      · show Act.put _ (some 41) _ = _
        simp only [Act.put, List.setIfInBounds_toArray, List.set_cons_zero, List.set_cons_succ, i64_w, i32_w]
        rfl
      refine pure_ (i := 6) (N := some 42) (v := ?_) (a' := ?_) #[true, true, true, true, true, true, true, false] rfl rfl (by kernel_rfl) (fun _ _ _ h => leaves_put 42 (by decide) (by decide) h) (Or.inl ⟨by rfl, ?_⟩) ?_ ?_
      rotate_left
      · intro w'
        go_simp
        with_reducible rfl
      rotate_left
      · simp only [Act.put, List.setIfInBounds_toArray, List.set_cons_zero, List.set_cons_succ, i64_w, i32_w]
        rfl
      refine last_ (i := 7) (N := none) #[true, true, true, true, true, true, true, true] rfl rfl (by kernel_rfl) (by decide) (fun K hK => ?_)
      have c5_ := blk_cell B4.out 0
      have f5_ := blk_frozen B4.out 0
      refine skip_ (w1 := ?_) (by rfl) rfl ?_ ?_
      rotate_left
      · go_simp
        rfl
      refine hK.out _ _ ?_
      clear hK K
      refine done_ (by kernel_rfl) ?_
      generalize w4_.setCell ⟨w.heap.size, 0, none⟩ (.slice A8 (fs.length + 1) c8) = W8 at HX4 ⊢
      clear HX2 B4 HXd
      go_wp2_with fail
      go_roundg k1
      case measure => omega
      case rel => exact ⟨fs ++ [x], ts2, m2, _, HL2, ⟨by have := HV_.out; have := HLN.out; omega, HV_.out.2.1, HV_.out.2.2⟩, HX4⟩
end Go.Proofs.Ytkjdblbgmomieaa.PSh
end
-- from YtkjdblbgmomieaaHSmallS
section
namespace Go.Proofs.Ytkjdblbgmomieaa.PSh
open Go.RowKit Go.Proofs.YtkjdblbgmomieaaW.PrintWords Go.Proofs.YtkjdblbgmomieaaW.PrintLast Go.Proofs.YtkjdblbgmomieaaW.PrintMore Go.Proofs.Ytkjdblbgmomieaa.Str
set_option linter.unusedVariables false
set_option linter.unusedSimpArgs false
def smallS : ByteArray := ⟨#[102, 117, 110, 99, 32, 109, 97, 105, 110, 40, 105, 32, 112, 41, 32, 105, 32, 123, 32, 98, 48, 58, 32, 37, 50, 32, 61, 32, 99, 111, 110, 115, 116, 32, 45, 53, 32, 37, 51, 32, 61, 32, 110, 101, 119, 32, 105, 112, 32, 115, 116, 111, 114, 101, 46, 112, 32, 37, 51, 32, 49, 32, 37, 49, 32, 98, 114, 32, 98, 49, 32, 98, 49, 58, 32, 37, 52, 32, 61, 32, 112, 104, 105, 46, 105, 32, 98, 48, 32, 37, 50, 32, 98, 49, 32, 37, 53, 32, 37, 53, 32, 61, 32, 97, 100, 100, 32, 37, 52, 32, 37, 48, 32, 37, 54, 32, 61, 32, 99, 97, 108, 108, 46, 105, 32, 64, 55, 32, 102, 32, 37, 51, 32, 105, 102, 32, 37, 54, 32, 98, 49, 32, 98, 50, 32, 98, 50, 58, 32, 111, 117, 116, 32, 37, 53, 32, 114, 101, 116, 32, 37, 53, 32, 125, 32, 102, 117, 110, 99, 32, 102, 40, 112, 41, 32, 105, 32, 123, 32, 98, 48, 58, 32, 37, 49, 32, 61, 32, 108, 111, 97, 100, 46, 105, 32, 37, 48, 32, 48, 32, 114, 101, 116, 32, 37, 49, 32, 125]⟩
def turntablelaw06_Small.f : Option ByteArray := some smallS
set_option maxHeartbeats 4000000 in
set_option maxRecDepth 100000 in
theorem turntablelaw06_Small.calls (r : ByteArray) (w : World) (h : turntablelaw06_Small.f = some r) :
    Calls Try.prog 29 #[] w fun e w' => e = .returned (.string r) ∧ Drawn0 w w' := by
  obtain rfl := Option.some.inj h
  go_enter Try.func29, Try.ntmps29
  go_wp2
  go_ret
  exact ⟨rfl, Drawn0.refl _⟩
end Go.Proofs.Ytkjdblbgmomieaa.PSh
end
-- from YtkjdblbgmomieaaHPWorks
section
namespace Go.Proofs.Ytkjdblbgmomieaa.PSh
open Go.RowKit Go.Proofs.YtkjdblbgmomieaaW.PrintWords Go.Proofs.YtkjdblbgmomieaaW.PrintLast Go.Proofs.YtkjdblbgmomieaaW.PrintMore Go.Proofs.Ytkjdblbgmomieaa.Str Go.Proofs.Ytkjdblbgmomieaa.Dig Go.Proofs.Ytkjdblbgmomieaa.DigLaw
set_option linter.unusedVariables false
set_option linter.unusedSimpArgs false
def wsR : List SF × Int × Int := (parse_Text.f smallS).getD ([], 1, 1)
def wsF : SF := rd_T34 wsR.1 0
def wsB : List SI := wsF.f3.getD 1 []
def wsX : SI := rd_T39 wsB 2
theorem ws_p : parse_Text.f smallS = some (wsR.1, 0, 0) := by kernel_rfl
theorem ws_len : wsR.1.length = 2 := by kernel_rfl
theorem ws_bs : wsF.f3.length = 3 := by kernel_rfl
theorem ws_b : wsB.length = 4 := by kernel_rfl
theorem ws_x : wsX.f0 = 21 ∧ wsX.f2 = 7 ∧ wsX.f6 = (⟨#[102]⟩ : ByteArray) ∧ wsX.f4.length = 1 := by
  refine ⟨?_, ?_, ?_, ?_⟩ <;> kernel_rfl
theorem ws_t0 : parse_Text.f (⟨#[102, 117, 110, 99, 32, 109, 97, 105, 110, 40, 41, 32, 110, 32, 123, 32, 98, 48, 58, 32, 120, 32, 125]⟩ : ByteArray) = some ([], 2, 20) := by kernel_rfl
theorem ws_t1 : parse_Text.f (⟨#[102, 117, 110, 99, 32, 109, 97, 105, 110, 40, 41, 32, 110, 32, 123, 32, 98, 49, 58, 32, 114, 101, 116, 32, 125]⟩ : ByteArray) = some ([], 7, 16) := by kernel_rfl
theorem ws_t2 : parse_Text.f (⟨#[102, 117, 110, 99]⟩ : ByteArray) = some ([], 4, 4) := by kernel_rfl
def turntablelaw06_works.f : Option Bool := some true
set_option maxHeartbeats 8000000 in
set_option maxRecDepth 100000 in
theorem turntablelaw06_works.calls (r : Bool) (w : World) (h : turntablelaw06_works.f = some r) : Calls Try.prog 20 #[] w fun e w' => e = .returned (.bool r) ∧ Below w.heap.size w w' := by
  obtain rfl := Option.some.inj h
  clear h
  have hu24 := Try.underlying24
  have hu28 := Try.underlying28
  have hu34 := Try.underlying34
  have hu39 := Try.underlying39
  go_enter Try.func20, Try.ntmps20
  go_wp2_with fail
  refine (turntablelaw06_Small.calls smallS _ rfl).mono ?_
  rintro e w1 ⟨rfl, hd⟩
  have HB1 := Aside0.mk hd.below
  clear hd
  go_wp2_with fail
  refine (parse_Text.calls smallS _ _ _ _ ws_p).mono ?_
  rintro e v1_ ⟨v_, rfl, hr_, hb_⟩
  obtain ⟨A1, c1, e_, hl1, hC1⟩ := Kd.R_reads hr_
  subst e_
  have HB_ := Aside0.mk (below_step HB1.out hb_)
  have hq_ := below_alloc (below_alloc (Below.refl v1_.heap.size v1_) (.cells #[.slice A1 wsR.1.length c1] 24)) (.cells #[.int .i64 0, .int .i64 0] 28)
  have HBx1 := Aside0.mk (below_step HB_.out hq_)
  have k1_ := blk_alloc (blk_new v1_ (.cells #[.slice A1 wsR.1.length c1] 24)) (.cells #[.int .i64 0, .int .i64 0] 28)
  have k2_ := blk_new (v1_.alloc (.cells #[.slice A1 wsR.1.length c1] 24)) (.cells #[.int .i64 0, .int .i64 0] 28)
  rw [show (v1_.alloc (.cells #[.slice A1 wsR.1.length c1] 24)).heap.size = v1_.heap.size + 1 by simp] at k2_
  have HC1 := Aside0.mk (Kd.C_below hC1 hq_)
  have HSn := Aside0.mk (below_step hb_ hq_)
  clear hr_ hb_ hC1 hl1 HB_
  go_upto_region 2 with (fail)
  generalize ((v1_.alloc (.cells #[.slice A1 wsR.1.length c1] 24)).alloc (.cells #[.int .i64 0, .int .i64 0] 28)) = W1 at *
  clear hq_
  generalize v1_.heap.size + 1 = be1 at k2_ ⊢
  generalize v1_.heap.size = bp1 at k1_ ⊢
  have HP1 := Aside0.mk k1_
  have HE1 := Aside0.mk k2_
  clear k1_ k2_
  go_wp2_with fail
  refine (parse_Text.calls (⟨#[102, 117, 110, 99, 32, 109, 97, 105, 110, 40, 41, 32, 110, 32, 123, 32, 98, 48, 58, 32, 120, 32, 125]⟩ : ByteArray) _ _ _ _ ws_t0).mono ?_
  rintro e v2_ ⟨v_, rfl, hr_, hb_⟩
  obtain ⟨A2, c2, e_, hl2, hC2⟩ := Kd.R_reads hr_
  subst e_
  have HB_ := Aside0.mk (below_step HBx1.out hb_)
  have hq_ := below_alloc (below_alloc (Below.refl v2_.heap.size v2_) (.cells #[.slice A2 ([] : List SF).length c2] 24)) (.cells #[.int .i64 2, .int .i64 20] 28)
  have HBx2 := Aside0.mk (below_step HB_.out hq_)
  have k1_ := blk_alloc (blk_new v2_ (.cells #[.slice A2 ([] : List SF).length c2] 24)) (.cells #[.int .i64 2, .int .i64 20] 28)
  have k2_ := blk_new (v2_.alloc (.cells #[.slice A2 ([] : List SF).length c2] 24)) (.cells #[.int .i64 2, .int .i64 20] 28)
  rw [show (v2_.alloc (.cells #[.slice A2 ([] : List SF).length c2] 24)).heap.size = v2_.heap.size + 1 by simp] at k2_
  have HC2 := Aside0.mk (Kd.C_below hC2 hq_)
  have HSn := Aside0.mk (below_step hb_ hq_)
  have HS1 := Aside0.mk (HSn.out)
  clear hr_ hb_ hC2 hl2 HB_
  go_upto_region 3 with (fail)
  generalize ((v2_.alloc (.cells #[.slice A2 ([] : List SF).length c2] 24)).alloc (.cells #[.int .i64 2, .int .i64 20] 28)) = W2 at *
  clear hq_
  generalize v2_.heap.size + 1 = be2 at k2_ ⊢
  generalize v2_.heap.size = bp2 at k1_ ⊢
  have HP2 := Aside0.mk k1_
  have HE2 := Aside0.mk k2_
  clear k1_ k2_
  go_wp2_with fail
  refine (parse_Text.calls (⟨#[102, 117, 110, 99, 32, 109, 97, 105, 110, 40, 41, 32, 110, 32, 123, 32, 98, 49, 58, 32, 114, 101, 116, 32, 125]⟩ : ByteArray) _ _ _ _ ws_t1).mono ?_
  rintro e v3_ ⟨v_, rfl, hr_, hb_⟩
  obtain ⟨A3, c3, e_, hl3, hC3⟩ := Kd.R_reads hr_
  subst e_
  have HB_ := Aside0.mk (below_step HBx2.out hb_)
  have hq_ := below_alloc (below_alloc (Below.refl v3_.heap.size v3_) (.cells #[.slice A3 ([] : List SF).length c3] 24)) (.cells #[.int .i64 7, .int .i64 16] 28)
  have HBx3 := Aside0.mk (below_step HB_.out hq_)
  have k1_ := blk_alloc (blk_new v3_ (.cells #[.slice A3 ([] : List SF).length c3] 24)) (.cells #[.int .i64 7, .int .i64 16] 28)
  have k2_ := blk_new (v3_.alloc (.cells #[.slice A3 ([] : List SF).length c3] 24)) (.cells #[.int .i64 7, .int .i64 16] 28)
  rw [show (v3_.alloc (.cells #[.slice A3 ([] : List SF).length c3] 24)).heap.size = v3_.heap.size + 1 by simp] at k2_
  have HC3 := Aside0.mk (Kd.C_below hC3 hq_)
  have HSn := Aside0.mk (below_step hb_ hq_)
  have HS1 := Aside0.mk (below_step HS1.out HSn.out)
  have HS2 := Aside0.mk (HSn.out)
  clear hr_ hb_ hC3 hl3 HB_
  go_upto_region 4 with (fail)
  generalize ((v3_.alloc (.cells #[.slice A3 ([] : List SF).length c3] 24)).alloc (.cells #[.int .i64 7, .int .i64 16] 28)) = W3 at *
  clear hq_
  generalize v3_.heap.size + 1 = be3 at k2_ ⊢
  generalize v3_.heap.size = bp3 at k1_ ⊢
  have HP3 := Aside0.mk k1_
  have HE3 := Aside0.mk k2_
  clear k1_ k2_
  go_wp2_with fail
  refine (parse_Text.calls (⟨#[102, 117, 110, 99]⟩ : ByteArray) _ _ _ _ ws_t2).mono ?_
  rintro e v4_ ⟨v_, rfl, hr_, hb_⟩
  obtain ⟨A4, c4, e_, hl4, hC4⟩ := Kd.R_reads hr_
  subst e_
  have HB_ := Aside0.mk (below_step HBx3.out hb_)
  have hq_ := below_alloc (below_alloc (Below.refl v4_.heap.size v4_) (.cells #[.slice A4 ([] : List SF).length c4] 24)) (.cells #[.int .i64 4, .int .i64 4] 28)
  have HBx4 := Aside0.mk (below_step HB_.out hq_)
  have k1_ := blk_alloc (blk_new v4_ (.cells #[.slice A4 ([] : List SF).length c4] 24)) (.cells #[.int .i64 4, .int .i64 4] 28)
  have k2_ := blk_new (v4_.alloc (.cells #[.slice A4 ([] : List SF).length c4] 24)) (.cells #[.int .i64 4, .int .i64 4] 28)
  rw [show (v4_.alloc (.cells #[.slice A4 ([] : List SF).length c4] 24)).heap.size = v4_.heap.size + 1 by simp] at k2_
  have HC4 := Aside0.mk (Kd.C_below hC4 hq_)
  have HSn := Aside0.mk (below_step hb_ hq_)
  have HS1 := Aside0.mk (below_step HS1.out HSn.out)
  have HS2 := Aside0.mk (below_step HS2.out HSn.out)
  have HS3 := Aside0.mk (HSn.out)
  clear hr_ hb_ hC4 hl4 HB_
  go_upto_region 5 with (fail)
  generalize ((v4_.alloc (.cells #[.slice A4 ([] : List SF).length c4] 24)).alloc (.cells #[.int .i64 4, .int .i64 4] 28)) = W4 at *
  clear hq_
  generalize v4_.heap.size + 1 = be4 at k2_ ⊢
  generalize v4_.heap.size = bp4 at k1_ ⊢
  have HP4 := Aside0.mk k1_
  have HE4 := Aside0.mk k2_
  clear k1_ k2_
  clear HB1
  obtain ⟨ad, B1, d1, B3, d3, ea, y0, y1, y2, y3, y4, l1, g1, l3, g3⟩ := at_T34 HC1.out 0 (by decide) (by rw [ws_len]; decide)
  have ef : rd_T34 wsR.1 0 = wsF := rfl
  rw [ef] at y3 g3
  obtain ⟨ad2, cs, e2, -, hK, hc0⟩ := Kd.C_get g3 ([] : List SI) 1 (by decide) (by rw [ws_bs]; decide)
  obtain ⟨A5, c5, rfl, l5, g5⟩ := hK
  have hx2 := hc0 0 _ rfl
  rw [show (1 : Int).toNat * (Kd.slice 39 k39).sz + 0 = 1 from rfl] at hx2
  have eb : wsF.f3.getD (1 : Int).toNat [] = wsB := rfl
  rw [eb] at hx2 g5
  obtain ⟨ad3, E4, e4, E5, e5, e3, x0, x1, x2, x3, x4, x5, x6, x7, m4, h4, m5, h5⟩ := at_T39 g5 2 (by decide) (by rw [ws_b]; decide)
  have ex : rd_T39 wsB 2 = wsX := rfl
  rw [ex] at x0 x1 x2 x3 x4 x5 x6 x7
  rw [ws_x.1] at x0
  rw [ws_x.2.1] at x2
  rw [ws_x.2.2.1] at x6
  rw [ws_x.2.2.2] at x4
  rw [ws_b, e3] at hx2
  rw [ws_bs, e2] at y3
  have s34 : Below W1.heap.size W1 W4 := HS1.out
  have y3 : W4.cell? ⟨ad.block, ad.off + 3, none⟩ = _ := pw_cell_below s34 y3
  have hx2 : W4.cell? ⟨ad2.block, ad2.off + 1, none⟩ = _ := pw_cell_below s34 hx2
  have x0 : W4.cell? ⟨ad3.block, ad3.off + 16, none⟩ = _ := pw_cell_below s34 x0
  have x1 : W4.cell? ⟨ad3.block, ad3.off + 16 + 1, none⟩ = _ := pw_cell_below s34 x1
  have x2 : W4.cell? ⟨ad3.block, ad3.off + 16 + 2, none⟩ = _ := pw_cell_below s34 x2
  have x3 : W4.cell? ⟨ad3.block, ad3.off + 16 + 3, none⟩ = _ := pw_cell_below s34 x3
  have x4 : W4.cell? ⟨ad3.block, ad3.off + 16 + 4, none⟩ = _ := pw_cell_below s34 x4
  have x5 : W4.cell? ⟨ad3.block, ad3.off + 16 + 5, none⟩ = _ := pw_cell_below s34 x5
  have x6 : W4.cell? ⟨ad3.block, ad3.off + 16 + 6, none⟩ = _ := pw_cell_below s34 x6
  have x7 : W4.cell? ⟨ad3.block, ad3.off + 16 + 7, none⟩ = _ := pw_cell_below s34 x7
  have hP1 := blk_below HP1.out s34
  have hE1 := blk_below HE1.out s34
  have hE2 := blk_below HE2.out HS2.out
  have hE3 := blk_below HE3.out HS3.out
  rw [ws_len, ea] at hP1
  have p0 := blk_cell hP1 0
  have q0 := blk_cell hE1 0
  have HF2 := Aside0.mk hE2
  have HF3 := Aside0.mk hE3
  clear hP1 hE1 hE2 hE3 s34 l1 g1 l3 g3 l5 g5 m4 h4 m5 h5 hc0 ea e2 e3 ef eb ex y0 y1 y2 y4
  have hbx := blk_new W4 (.cells #[.int .i64 21, .int .i64 wsX.f1, .int .i64 7, .int .i64 wsX.f3, .slice E4 1 e4, .slice E5 wsX.f5.length e5, .string (⟨#[102]⟩ : ByteArray), .int .i64 wsX.f7] 39)
  have hbb := below_alloc (Below.refl W4.heap.size W4) (.cells #[.int .i64 21, .int .i64 wsX.f1, .int .i64 7, .int .i64 wsX.f3, .slice E4 1 e4, .slice E5 wsX.f5.length e5, .string (⟨#[102]⟩ : ByteArray), .int .i64 wsX.f7] 39)
  have HBZ := Aside0.mk (below_step HBx4.out hbb)
  have HBX := Aside0.mk hbx
  have HF2 := Aside0.mk (blk_below HF2.out hbb)
  have HF3 := Aside0.mk (blk_below HF3.out hbb)
  have HF4 := Aside0.mk (blk_below HE4.out hbb)
  clear hbx hbb
  go_upto_region 8 with (fail)
  clear y3 hx2 x0 x1 x2 x3 x4 x5 x6 x7 p0 q0
  generalize W4.alloc (.cells _ 39) = W5 at HBZ HBX HF2 HF3 HF4 ⊢
  have r0 := blk_cell HBX.out 0
  have r2 := blk_cell HBX.out 2
  have r4 := blk_cell HBX.out 4
  have r6 := blk_cell HBX.out 6
  have u0 := blk_cell HF2.out 0
  have u1 := blk_cell HF2.out 1
  have v0 := blk_cell HF3.out 0
  have v1 := blk_cell HF3.out 1
  have w0 := blk_cell HF4.out 0
  have w1_ := blk_cell HF4.out 1
  go_wp2
  (try simp only [Exit.inBlock, Exit.then])
  go_ret
  exact ⟨rfl, HBZ.out⟩
end Go.Proofs.Ytkjdblbgmomieaa.PSh
end
-- from YtkjdblbgmomieaaLiSplit
section
namespace Go.Proofs.Ytkjdblbgmomieaa.PSh
open Go.RowKit Go.Proofs.YtkjdblbgmomieaaW.PrintWords Go.Proofs.YtkjdblbgmomieaaW.PrintLast Go.Proofs.YtkjdblbgmomieaaW.PrintMore Go.Proofs.Ytkjdblbgmomieaa.Str
set_option linter.unusedVariables false
set_option linter.unusedSimpArgs false
def Stand (s : ByteArray) : Int → List Tok → Int → Prop
  | a, [], b => a ≤ b
  | a, t :: l, b => a ≤ t.f1 ∧ 0 < t.f0.size ∧ t.f1 + t.f0.size ≤ s.size ∧ s.extract t.f1.toNat (t.f1 + t.f0.size).toNat = t.f0 ∧ Stand s (t.f1 + t.f0.size) l b
theorem stand_snoc {s : ByteArray} {t : Tok} {b c : Int} : ∀ {l : List Tok} {a : Int}, Stand s a l b → b ≤ t.f1 → 0 < t.f0.size → t.f1 + t.f0.size ≤ s.size → s.extract t.f1.toNat (t.f1 + t.f0.size).toNat = t.f0 → t.f1 + t.f0.size ≤ c → Stand s a (l ++ [t]) c := by
  intro l
  induction l with
  | nil => intro a h h1 h2 h3 h4 h5; exact ⟨Int.le_trans h h1, h2, h3, h4, h5⟩
  | cons x l ih => intro a h h1 h2 h3 h4 h5; exact ⟨h.1, h.2.1, h.2.2.1, h.2.2.2.1, ih h.2.2.2.2 h1 h2 h3 h4 h5⟩
theorem stand_le {s : ByteArray} {b c : Int} (hbc : b ≤ c) : ∀ {l : List Tok} {a : Int}, Stand s a l b → Stand s a l c := by
  intro l
  induction l with
  | nil => intro a h; exact Int.le_trans h hbc
  | cons x l ih => intro a h; exact ⟨h.1, h.2.1, h.2.2.1, h.2.2.2.1, ih h.2.2.2.2⟩
theorem ext_size (s : ByteArray) (a b : Nat) (h : a ≤ b) (hb : b ≤ s.size) : (s.extract a b).size = b - a := by
  rw [ByteArray.size_extract]; omega
theorem stand_close {s : ByteArray} {fr : Int} {i : Nat} {out : List Tok} {e : Int} (h : Stand s 0 out e) (hi : i ≤ s.size) (hf : fr = -1 ∧ e ≤ i ∨ e ≤ fr ∧ 0 ≤ fr ∧ fr < i) : Stand s 0 (closeW s fr i out) i := by
  unfold closeW
  rcases hf with ⟨h1, h2⟩ | ⟨h1, h2, h3⟩
  · rw [if_pos (by omega)]; exact stand_le h2 h
  · rw [if_neg (by omega)]
    have hs : (s.extract fr.toNat i).size = i - fr.toNat := ext_size s _ _ (by omega) hi
    have hs2 : ((s.extract fr.toNat i).size : Int) = i - fr := by rw [hs]; omega
    refine stand_snoc h h1 (by show 0 < (s.extract fr.toNat i).size; omega) (by show fr + ((s.extract fr.toNat i).size : Int) ≤ _; omega) ?_ (by show fr + ((s.extract fr.toNat i).size : Int) ≤ _; omega)
    show s.extract fr.toNat (fr + ((s.extract fr.toNat i).size : Int)).toNat = s.extract fr.toNat i
    congr 1
    omega
theorem ext_one (s : ByteArray) (i : Nat) (c : UInt8) (l : List UInt8) (h : s.data.toList.drop i = c :: l) : s.extract i (i + 1) = mk [c] := by
  have e : s = mk s.data.toList := mk_data s
  have h2 : (s.data.toList.drop i).take 1 = [c] := by rw [h]; rfl
  rw [e, mk_extract]
  congr 1
  have : (List.take (i + 1) s.data.toList).drop i = List.take 1 (s.data.toList.drop i) := by
    rw [List.drop_take]; congr 1; omega
  rw [this, h2]
theorem split_stand (s : ByteArray) : ∀ (l : List UInt8) (i : Nat) (fr : Int) (noted : Bool) (out : List Tok) (e : Int) (r1 : List Tok) (r2 r3 : Int), s.data.toList.drop i = l → i ≤ s.size → Stand s 0 out e → (fr = -1 ∧ e ≤ i ∨ e ≤ fr ∧ 0 ≤ fr ∧ fr < i) →
    splitGo s l i fr noted out = (r1, r2, r3) → (r2 = 0 ∧ Stand s 0 r1 s.size) ∨ (r2 = 1 ∧ r1 = [] ∧ 0 ≤ r3 ∧ r3 < s.size) := by
  intro l
  induction l with
  | nil =>
    intro i fr noted out e r1 r2 r3 hd hi hs hf h
    rw [splitGo] at h
    obtain ⟨rfl, h2⟩ := Prod.mk.inj h
    obtain ⟨rfl, rfl⟩ := Prod.mk.inj h2
    exact .inl ⟨rfl, stand_le (by omega) (stand_close hs hi hf)⟩
  | cons c l ih =>
    intro i fr noted out e r1 r2 r3 hd hi hs hf h
    have hlt : i < s.size := by
      have h9 := congrArg List.length hd
      rw [List.length_drop, List.length_cons] at h9
      have : s.size = s.data.toList.length := rfl
      omega
    have hd2 : s.data.toList.drop (i + 1) = l := by
      rw [← List.drop_drop, hd]; rfl
    have hc := stand_close hs hi hf
    rw [splitGo] at h
    by_cases hn : noted = true
    · rw [if_pos hn] at h
      exact ih (i + 1) fr _ out e r1 r2 r3 hd2 hlt hs (by omega) h
    · rw [if_neg hn] at h
      by_cases h0 : kindR c.toNat = 0
      · rw [if_pos h0] at h
        exact ih (i + 1) (-1) _ _ i r1 r2 r3 hd2 hlt hc (.inl ⟨rfl, by omega⟩) h
      · rw [if_neg h0] at h
        by_cases h1 : kindR c.toNat = 1
        · rw [if_pos h1] at h
          refine ih (i + 1) (-1) _ _ ((i + 1 : Nat) : Int) r1 r2 r3 hd2 hlt (stand_snoc hc (Int.le_refl _) (by show 0 < (mk [c]).size; rw [mk_size]; exact Nat.one_pos) ?_ ?_ ?_) (.inl ⟨rfl, by omega⟩) h
          · show (i : Int) + ((mk [c]).size : Int) ≤ _; rw [mk_size, List.length_singleton]; omega
          · show s.extract i ((i : Int) + ((mk [c]).size : Int)).toNat = mk [c]
            rw [mk_size, List.length_singleton]
            exact ext_one s i c l hd
          · show (i : Int) + ((mk [c]).size : Int) ≤ _; rw [mk_size, List.length_singleton]; omega
        · rw [if_neg h1] at h
          by_cases h2 : kindR c.toNat = 2
          · rw [if_pos h2] at h
            by_cases hfr : fr < 0
            · rw [if_pos hfr] at h
              exact ih (i + 1) i _ _ e r1 r2 r3 hd2 hlt hs (.inr (by omega)) h
            · rw [if_neg hfr] at h
              exact ih (i + 1) fr _ _ e r1 r2 r3 hd2 hlt hs (by omega) h
          · rw [if_neg h2] at h
            by_cases h3 : kindR c.toNat = 3
            · rw [if_pos h3] at h
              exact ih (i + 1) (-1) _ _ i r1 r2 r3 hd2 hlt hc (.inl ⟨rfl, by omega⟩) h
            · rw [if_neg h3] at h
              obtain ⟨rfl, h4⟩ := Prod.mk.inj h
              obtain ⟨rfl, rfl⟩ := Prod.mk.inj h4
              exact .inr ⟨rfl, rfl, by omega, by omega⟩
theorem stand_in {s : ByteArray} : ∀ {l : List Tok} {a b : Int}, Stand s a l b → ∀ t ∈ l, a ≤ t.f1 ∧ t.f0.size ≤ s.size := by
  intro l
  induction l with
  | nil => intro a b _ t ht; cases ht
  | cons x l ih =>
    intro a b h t ht
    rcases List.mem_cons.mp ht with rfl | ht
    · exact ⟨h.1, by
        have := congrArg ByteArray.size h.2.2.2.1
        rw [ByteArray.size_extract] at this
        omega⟩
    · have := ih h.2.2.2.2 t ht
      exact ⟨by have := h.1; omega, this.2⟩
theorem stand_len {s : ByteArray} : ∀ {l : List Tok} {a b : Int}, Stand s a l b → (l.length : Int) ≤ b - a := by
  intro l
  induction l with
  | nil => intro a b h; have : a ≤ b := h; simp; omega
  | cons x l ih =>
    intro a b h
    have := ih h.2.2.2.2
    have h1 := h.1
    have h2 := h.2.1
    rw [List.length_cons]
    omega
end Go.Proofs.Ytkjdblbgmomieaa.PSh
end
-- from YtkjdblbgmomieaaPSplit
section
namespace Go.Proofs.Ytkjdblbgmomieaa.PSh
open Go.RowKit Go.Proofs.YtkjdblbgmomieaaW.PrintWords Go.Proofs.YtkjdblbgmomieaaW.PrintLast Go.Proofs.YtkjdblbgmomieaaW.PrintMore Go.Proofs.Ytkjdblbgmomieaa.Str
set_option linter.unusedVariables false
set_option linter.unusedSimpArgs false
theorem kind10 : kindR (((10 : UInt8).toNat : Nat) : Int) = 0 := by decide
theorem split_pre (s S : ByteArray) (tl : List UInt8) (hS : ∀ a b, b ≤ s.size → S.extract a b = s.extract a b) : ∀ (l : List UInt8) (i : Nat) (fr : Int) (nt : Bool) (out o : List Tok) (e : Int), splitGo s l i fr nt out = (o, 0, e) → i + l.length ≤ s.size → (nt = true → fr = -1) → splitGo S (l ++ 10 :: tl) i fr nt out = splitGo S tl (i + l.length + 1) (-1) false o := by
  have hc : ∀ (fr : Int) (i : Nat) (out : List Tok), i ≤ s.size → closeW S fr i out = closeW s fr i out := by
    intro fr i out hi
    unfold closeW
    rw [hS _ _ hi]
  intro l
  induction l with
  | nil =>
    intro i fr nt out o e h hi hn
    simp only [splitGo] at h
    injection h with h1 h2
    simp only [List.nil_append, splitGo, List.length_nil, Nat.add_zero] at hi ⊢
    cases nt with
    | true =>
      have hf := hn rfl
      subst hf
      rw [if_pos rfl, show ((((10 : UInt8).toNat : Nat) : Int) != 10) = false from by decide, ← h1]
      rfl
    | false =>
      rw [if_neg (by decide), if_pos kind10, hc _ _ _ hi, h1]
  | cons c l ih =>
    intro i fr nt out o e h hi hn
    simp only [List.length_cons] at hi
    simp only [List.cons_append, splitGo, List.length_cons] at h ⊢
    have e1 : i + (l.length + 1) + 1 = i + 1 + l.length + 1 := by omega
    rw [e1]
    by_cases c1 : nt = true
    · rw [if_pos c1] at h ⊢
      exact ih _ _ _ _ _ _ h (by omega) (fun _ => hn c1)
    rw [if_neg c1] at h ⊢
    by_cases c2 : kindR c.toNat = 0
    · rw [if_pos c2] at h ⊢
      rw [hc _ _ _ (by omega)]
      exact ih _ _ _ _ _ _ h (by omega) (fun _ => rfl)
    rw [if_neg c2] at h ⊢
    by_cases c3 : kindR c.toNat = 1
    · rw [if_pos c3] at h ⊢
      rw [hc _ _ _ (by omega)]
      exact ih _ _ _ _ _ _ h (by omega) (fun _ => rfl)
    rw [if_neg c3] at h ⊢
    by_cases c4 : kindR c.toNat = 2
    · rw [if_pos c4] at h ⊢
      exact ih _ _ _ _ _ _ h (by omega) (fun q => by cases q)
    rw [if_neg c4] at h ⊢
    by_cases c5 : kindR c.toNat = 3
    · rw [if_pos c5] at h ⊢
      rw [hc _ _ _ (by omega)]
      exact ih _ _ _ _ _ _ h (by omega) (fun _ => rfl)
    rw [if_neg c5] at h
    injection h with h1 h2
    injection h2 with h2 h3
    cases h2
theorem split_suf (t S : ByteArray) (d : Nat) (hS : ∀ a b, S.extract (a + d) (b + d) = t.extract a b) : ∀ (l : List UInt8) (i : Nat) (fr fr' : Int) (nt : Bool) (out out' o : List Tok) (us : List ByteArray) (e : Int), splitGo t l i fr nt out = (o, 0, e) → (fr < 0 ∧ fr' < 0 ∨ 0 ≤ fr ∧ fr' = fr + d) → out'.map (·.f0) = us ++ out.map (·.f0) → ∃ o', splitGo S l (i + d) fr' nt out' = (o', 0, 0) ∧ o'.map (·.f0) = us ++ o.map (·.f0) := by
  have hc : ∀ (fr fr' : Int) (i : Nat) (out out' : List Tok) (us : List ByteArray), (fr < 0 ∧ fr' < 0 ∨ 0 ≤ fr ∧ fr' = fr + d) → out'.map (·.f0) = us ++ out.map (·.f0) → (closeW S fr' (i + d) out').map (·.f0) = us ++ (closeW t fr i out).map (·.f0) := by
    intro fr fr' i out out' us hf h
    unfold closeW
    rcases hf with ⟨h1, h2⟩ | ⟨h1, h2⟩
    · rw [if_pos h1, if_pos h2]; exact h
    · rw [if_neg (by omega), if_neg (by omega), List.map_append, List.map_append, h, show fr'.toNat = fr.toNat + d by omega, hS]
      simp
  intro l
  induction l with
  | nil =>
    intro i fr fr' nt out out' o us e h hf ho
    simp only [splitGo] at h ⊢
    injection h with h1 h2
    exact ⟨_, rfl, by rw [← h1]; exact hc _ _ _ _ _ _ hf ho⟩
  | cons c l ih =>
    intro i fr fr' nt out out' o us e h hf ho
    simp only [splitGo] at h ⊢
    have e1 : i + d + 1 = i + 1 + d := by omega
    rw [e1]
    by_cases c1 : nt = true
    · rw [if_pos c1] at h ⊢
      exact ih _ _ _ _ _ _ _ _ _ h hf ho
    rw [if_neg c1] at h ⊢
    by_cases c2 : kindR c.toNat = 0
    · rw [if_pos c2] at h ⊢
      exact ih _ _ _ _ _ _ _ _ _ h (.inl ⟨by decide, by decide⟩) (hc _ _ _ _ _ _ hf ho)
    rw [if_neg c2] at h ⊢
    by_cases c3 : kindR c.toNat = 1
    · rw [if_pos c3] at h ⊢
      refine ih _ _ _ _ _ _ _ us _ h (.inl ⟨by decide, by decide⟩) ?_
      rw [List.map_append, List.map_append, hc _ _ _ _ _ _ hf ho]
      simp
    rw [if_neg c3] at h ⊢
    by_cases c4 : kindR c.toNat = 2
    · rw [if_pos c4] at h ⊢
      refine ih _ _ _ _ _ _ _ us _ h ?_ ho
      rcases hf with ⟨h1, h2⟩ | ⟨h1, h2⟩
      · rw [if_pos h1, if_pos h2]; exact .inr ⟨by omega, by push_cast; omega⟩
      · rw [if_neg (by omega), if_neg (by omega)]; exact .inr ⟨h1, h2⟩
    rw [if_neg c4] at h ⊢
    by_cases c5 : kindR c.toNat = 3
    · rw [if_pos c5] at h ⊢
      exact ih _ _ _ _ _ _ _ _ _ h (.inl ⟨by decide, by decide⟩) (hc _ _ _ _ _ _ hf ho)
    rw [if_neg c5] at h
    injection h with h1 h2
    injection h2 with h2 h3
    cases h2
theorem split_join (a b : List UInt8) (h1 : (splitL (mk a)).2.1 = 0) (h2 : (splitL (mk b)).2.1 = 0) (hl : a.length + b.length + 1 ≤ 65536) : ∃ o, splitL (mk (a ++ 10 :: b)) = (o, 0, 0) ∧ o.map (·.f0) = (splitL (mk a)).1.map (·.f0) ++ (splitL (mk b)).1.map (·.f0) := by
  unfold splitL at h1 h2 ⊢
  rw [if_neg (by rw [mk_size]; omega)] at h1 h2
  rw [if_neg (by rw [mk_size, List.length_append, List.length_cons]; omega), if_neg (show ¬ 65536 < (mk a).size by rw [mk_size]; omega), if_neg (show ¬ 65536 < (mk b).size by rw [mk_size]; omega)]
  rw [show (mk (a ++ 10 :: b)).data.toList = a ++ 10 :: b from rfl, show (mk a).data.toList = a from rfl, show (mk b).data.toList = b from rfl]
  rw [show (mk a).data.toList = a from rfl] at h1
  rw [show (mk b).data.toList = b from rfl] at h2
  have k1 := split_pre (mk a) (mk (a ++ 10 :: b)) b (fun x y hy => by rw [mk_extract, mk_extract, List.take_append_of_le_length (by rw [mk_size] at hy; exact hy)]) a 0 (-1) false [] _ _ (show splitGo (mk a) a 0 (-1) false [] = ((splitGo (mk a) a 0 (-1) false []).1, 0, (splitGo (mk a) a 0 (-1) false []).2.2) by rw [← h1]) (by rw [mk_size]; omega) (fun q => by cases q)
  rw [k1]
  have k2 := split_suf (mk b) (mk (a ++ 10 :: b)) (a.length + 1) (fun x y => by
    rw [mk_extract, mk_extract, show a ++ 10 :: b = (a ++ [10]) ++ b by simp, show a.length + 1 = (a ++ [10]).length by simp]
    congr 1
    rw [Nat.add_comm y, List.take_length_add_append, Nat.add_comm x, List.drop_length_add_append]) b 0 (-1) (-1) false [] (splitGo (mk a) a 0 (-1) false []).1 _ ((splitGo (mk a) a 0 (-1) false []).1.map (·.f0)) _ (show splitGo (mk b) b 0 (-1) false [] = ((splitGo (mk b) b 0 (-1) false []).1, 0, (splitGo (mk b) b 0 (-1) false []).2.2) by rw [← h2]) (.inl ⟨by decide, by decide⟩) (by simp)
  obtain ⟨o, ho, hm⟩ := k2
  refine ⟨o, ?_, hm⟩
  rw [show 0 + a.length + 1 = 0 + (a.length + 1) by omega]
  exact ho
end Go.Proofs.Ytkjdblbgmomieaa.PSh
end
