import Derived.Laws.EntriesVeiled
import Derived.Test.YtkjdblbgmomieaaMj9
-- from YtkjdblbgmomieaaHPIx
section
namespace Go.Proofs.Ytkjdblbgmomieaa.PSh
open Go.RowKit Go.Proofs.YtkjdblbgmomieaaW.PrintWords Go.Proofs.YtkjdblbgmomieaaW.PrintLast Go.Proofs.YtkjdblbgmomieaaW.PrintMore Go.Proofs.Ytkjdblbgmomieaa.Str Go.Proofs.Ytkjdblbgmomieaa.Dig Go.Proofs.Ytkjdblbgmomieaa.DigLaw
set_option linter.unusedVariables false
set_option linter.unusedSimpArgs false
theorem keep_weak {w w1 : World} {g : Nat} {row : Option Nat} (h : KeepBut w w1 g none) : KeepBut w w1 g row := ⟨h.1, fun i hi hg _ => h.2 i hi hg (by simp)⟩
theorem keep_own {w w1 : World} {g bx : Nat} (h : KeepBut w w1 g (some bx)) (j : Nat) (u : Value) : KeepBut w (w1.setCell ⟨bx, j, none⟩ u) g (some bx) :=
  ⟨by simpa [World.setCell] using h.1, fun i hi hg hr => (Below.heap_setCell w1 ⟨bx, j, none⟩ u i (fun e => hr (by rw [e]))).trans (h.2 i hi hg hr)⟩
theorem bind_ok {α β : Type} (a : α) (f : α → PE β) : Except.bind (Except.ok a : PE α) f = f a := rfl
theorem bind_err {α β : Type} (x : Int × Int) (f : α → PE β) : Except.bind (Except.error x : PE α) f = .error x := rfl
theorem indexP_ok {en sign most c : Int} {ts us : List Tk} {v : Int} (h : indexP en sign most c ts = .ok (v, us)) : us = ts.tail ∧ us.length + 1 = ts.length := by
  unfold indexP failP at h
  by_cases c1 : (pk0 ts).size < 2
  · rw [if_pos c1] at h; cases h
  rw [if_neg c1] at h
  have hne : ts ≠ [] := size_ne (by omega)
  split at h
  · cases h
  split at h
  · injection h with h
    injection h with h1 h2
    refine ⟨h2.symm, ?_⟩
    rw [← h2]
    cases ts with
    | nil => exact absurd rfl hne
    | cons t ts => rfl
  · cases h
theorem int_new {W : World} {base : Nat} (hb : base ≤ W.heap.size) (ys : List Int) (hl : ys.length ≤ 100) : Kd.R (Kd.int .i64) 3 (W.alloc (.cells (ys.map (Value.int .i64)).toArray 3)) base (fun _ => True) (.slice (some ⟨W.heap.size, 0, none⟩) ys.length ys.length) ys :=
  Kd.R_of_own ⟨by simp [encs], .inr ⟨W.heap.size, ys.length, _, rfl, hb, blk_new W _, Nat.le_refl _, by simp only [maxLen]; omega, by simp, by simp [encs]; rw [List.take_of_length_le (by simp)]⟩⟩ (fun _ _ => trivial)
structure IPAt (g bx : Nat) (tl ts : List Tk) (x : SI) (va vt : Value) (en n : Int) (w0 w w' : World) : Prop where
  p : PAt g tl ts en n w0 w'
  k : KeepBut w w' g (some bx)
  wb : w0.heap.size ≤ w.heap.size
  bb : w0.heap.size ≤ bx
  box : w'.heap[bx]? = some (.cells (iObj x va vt) 39 (0, 0))
  two : TwoR w' w.heap.size va vt x.f4 x.f5
section
variable {g bx : Nat} {tl ts us : List Tk} {x : SI} {va vt v1 : Value} {en n m : Int} {w0 w w1 w2 : World}
theorem IPAt.gx (h : IPAt g bx tl ts x va vt en n w0 w w1) : g ≠ bx := by
  obtain ⟨cells, hc⟩ := h.p.blk
  exact blk_ne hc h.box (by decide)
theorem IPAt.call (h : IPAt g bx tl ts x va vt en n w0 w w1) (hp : PAt g tl us en m w0 w2) (hk : KeepBut w1 w2 g none) : IPAt g bx tl us x va vt en m w0 w w2 := by
  obtain ⟨cells, hc⟩ := h.p.blk
  exact ⟨hp, h.k.trans (keep_weak hk) (.inl rfl), h.wb, h.bb, hk.blk h.box h.gx.symm (by simp), h.two.keep hc (by decide) hk⟩
theorem IPAt.below (h : IPAt g bx tl ts x va vt en n w0 w w1) (hb : Below w1.heap.size w1 w2) : IPAt g bx tl ts x va vt en n w0 w w2 := h.call (h.p.below hb) (KeepBut.of_below hb g none)
theorem IPAt.bad (h : IPAt g bx tl ts x va vt en n w0 w w1) (hb : Below w0.heap.size w0 w2) (hk : KeepBut w1 w2 g none) : Below w0.heap.size w0 w2 ∧ KeepBut w w2 g (some bx) := ⟨hb, h.k.trans (keep_weak hk) (.inl rfl)⟩
theorem IPAt.put (h : IPAt g bx tl ts x va vt en n w0 w w1) (x2 : SI) (j : Nat) (u : Value) (hc : (iObj x va vt).setIfInBounds j u = iObj x2 va vt) (h4 : x2.f4 = x.f4) (h5 : x2.f5 = x.f5) : IPAt g bx tl ts x2 va vt en n w0 w (w1.setCell ⟨bx, j, none⟩ u) :=
  ⟨h.p.far h.gx h.bb j u, keep_own h.k j u, h.wb, h.bb, blk_put h.box j u hc, by rw [h4, h5]; exact h.two.set h.box (by decide) j u⟩
theorem IPAt.app (h : IPAt g bx tl ts x va vt en n w0 w w1) {row : Option Nat} (hg : w1.grownBy w2 row) (hrow : row = va.ownBlock ∨ row = vt.ownBlock) (x2 : SI) (j : Nat) {va2 vt2 : Value} (u : Value) (hc : (iObj x va vt).setIfInBounds j u = iObj x2 va2 vt2) (h2r : TwoR w2 w.heap.size va2 vt2 x2.f4 x2.f5) : IPAt g bx tl ts x2 va2 vt2 en n w0 w (w2.setCell ⟨bx, j, none⟩ u) := by
  obtain ⟨cells, hG⟩ := h.p.blk
  have ne : ∀ {g' t : Nat} {cells : Array Value}, w1.heap[g']? = some (.cells cells t (0, 0)) → 3 ≠ t → some g' ≠ row := fun hG ht => by
    rcases hrow with e | e
    · rw [e]; exact Kd.R_ne h.two.ra hG ht
    · rw [e]; exact Kd.R_ne h.two.rt hG ht
  have bs : ∀ k, row = some k → w.heap.size ≤ k := fun k e => by
    rcases hrow with e2 | e2
    · exact Kd.R_base h.two.ra k (e2 ▸ e)
    · exact Kd.R_base h.two.rt k (e2 ▸ e)
  have hx := (hg.block bx (blk_lt h.box) (ne h.box (by decide))).trans h.box
  have hp := h.p.grown hg (ne hG (by decide)) (fun k e => Nat.le_trans h.wb (bs k e))
  have hk : KeepBut w w2 g (some bx) := by
    refine ⟨Nat.le_trans h.k.1 hg.size, fun i hi hgi hr => (hg.block i (Nat.lt_of_lt_of_le hi h.k.1) (fun e => ?_)).trans (h.k.2 i hi hgi hr)⟩
    have := bs i e.symm
    omega
  exact ⟨hp.far h.gx h.bb j u, keep_own hk j u, h.wb, h.bb, blk_put hx j u hc, h2r.set hx (by decide) j u⟩
theorem IPAt.newA (h : IPAt g bx tl ts x va vt en n w0 w w1) (ys : List Int) (hl : ys.length ≤ 100) : IPAt g bx tl ts { x with f4 := ys } (.slice (some ⟨w1.heap.size, 0, none⟩) ys.length ys.length) vt en n w0 w ((w1.alloc (.cells (ys.map (Value.int .i64)).toArray 3)).setCell ⟨bx, 4, none⟩ (.slice (some ⟨w1.heap.size, 0, none⟩) ys.length ys.length)) := by
  have hb := below_alloc (Below.refl w1.heap.size w1) (.cells (ys.map (Value.int .i64)).toArray 3)
  have h2 := h.below hb
  refine ⟨h2.p.far h2.gx h2.bb _ _, keep_own h2.k _ _, h.wb, h.bb, blk_put h2.box 4 _ rfl, ?_⟩
  have hT : TwoR (w1.alloc (.cells (ys.map (Value.int .i64)).toArray 3)) w.heap.size (.slice (some ⟨w1.heap.size, 0, none⟩) ys.length ys.length) vt ys x.f5 :=
    ⟨int_new h.k.1 ys hl, h2.two.rt, fun k e e2 => by
      have := Kd.R_lt h.two.rt k e2
      simp only [Value.ownBlock, Option.some.injEq] at e
      omega⟩
  exact hT.set h2.box (by decide) 4 _
theorem IPAt.newT (h : IPAt g bx tl ts x va vt en n w0 w w1) (ys : List Int) (hl : ys.length ≤ 100) : IPAt g bx tl ts { x with f5 := ys } va (.slice (some ⟨w1.heap.size, 0, none⟩) ys.length ys.length) en n w0 w ((w1.alloc (.cells (ys.map (Value.int .i64)).toArray 3)).setCell ⟨bx, 5, none⟩ (.slice (some ⟨w1.heap.size, 0, none⟩) ys.length ys.length)) := by
  have hb := below_alloc (Below.refl w1.heap.size w1) (.cells (ys.map (Value.int .i64)).toArray 3)
  have h2 := h.below hb
  refine ⟨h2.p.far h2.gx h2.bb _ _, keep_own h2.k _ _, h.wb, h.bb, blk_put h2.box 5 _ rfl, ?_⟩
  have hT : TwoR (w1.alloc (.cells (ys.map (Value.int .i64)).toArray 3)) w.heap.size va (.slice (some ⟨w1.heap.size, 0, none⟩) ys.length ys.length) x.f4 ys :=
    ⟨h2.two.ra, int_new h.k.1 ys hl, fun k e e2 => by
      have := Kd.R_lt h.two.ra k e
      simp only [Value.ownBlock, Option.some.injEq] at e2
      omega⟩
  exact hT.set h2.box (by decide) 5 _
theorem IPAt.at1 (h : IPAt g bx tl ts x va vt en n w0 w w1) (j : Nat) : w1.cell? ⟨bx, j, none⟩ = (iObj x va vt)[j]? := blk_cell h.box j
theorem IPAt.step (h : IPAt g bx tl ts x va vt en n w0 w w1) {u : Value} (hp : PAt g tl us en m w0 (w1.setCell ⟨g, 1, none⟩ u)) : IPAt g bx tl us x va vt en m w0 w (w1.setCell ⟨g, 1, none⟩ u) := h.call hp ((KeepBut.refl w1 g none).set_ 1 _)
theorem IPAt.sl (h : IPAt g bx tl ts x va vt en n w0 w w1) : ∃ Aa ca At ct, va = .slice Aa x.f4.length ca ∧ vt = .slice At x.f5.length ct := by
  obtain ⟨Aa, ca, ea⟩ := Kd.R_slice h.two.ra
  obtain ⟨At, ct, et⟩ := Kd.R_slice h.two.rt
  exact ⟨Aa, ca, At, ct, ea, et⟩
end
section
variable {P : Program} {ops : Array Oper} {Q : Exit → Act → World → Prop}
theorem callP_ {oi : Oper} {N : Option Tmp} {a : Act} {w : World} {K : Act → World → Prop} (f : FuncId) (args : Array Value) (hw : Region.wanted oi (yielded ops a.tmps) = true) (hN : oi.dst = N) (hrun : (execOp a.eval oi).run P w = .ok (.enter f args) w)
    (h : Calls P f args w fun e w' => (∃ v, e = .returned v ∧ K (a.put N v) w') ∨ ∃ ch, e = .panicked ch ∧ Q (.panic ch) a w') : if Region.wanted oi (yielded ops a.tmps) = true then Oper.wp P oi a w K Q else K (a.put N undef) w := by
  rw [if_pos hw]
  subst hN
  unfold Oper.wp
  rw [hrun, Oper.upon_enter]
  refine h.mono fun e w'' hh => ?_
  rcases hh with ⟨v, rfl, hk⟩ | ⟨ch, rfl, hq⟩
  · exact hk
  · exact hq
theorem goesP_ {oi : Oper} {N : Option Tmp} {a : Act} {w : World} {K : Act → World → Prop} {f : FuncId} {fn : Func} {ar : Array Operand} {ts : Array TypeId} (hf : P.funcs[f]? = some fn) (hname : (fn.name == "runtime.NumGoroutine") = false) (hb : fn.body.isSome = true) (args : Array Value)
    (hw : Region.wanted oi (yielded ops a.tmps) = true) (hN : oi.dst = N) (hop : oi.op = .call { callee := .value (.func f), args := ar, argTypes := ts }) (hargs : ar.map a.eval = args)
    (h : Calls P f args w fun e w' => (∃ v, e = .returned v ∧ K (a.put N v) w') ∨ ∃ ch, e = .panicked ch ∧ Q (.panic ch) a w') : if Region.wanted oi (yielded ops a.tmps) = true then Oper.wp P oi a w K Q else K (a.put N undef) w := by
  refine callP_ f args hw hN ?_ h
  have he := enters_ hf hname hb args w
  unfold execOp
  simp [hop, resolve, Deferred.ofValue, invoke, Act.eval, hargs, he]
theorem goesVP_ {oi : Oper} {N : Option Tmp} {a : Act} {w : World} {K : Act → World → Prop} {f : FuncId} {fn : Func} {x : Operand} {ts : Array TypeId} (hf : P.funcs[f]? = some fn) (hname : (fn.name == "runtime.NumGoroutine") = false) (hb : fn.body.isSome = true) (args : Array Value)
    (hw : Region.wanted oi (yielded ops a.tmps) = true) (hN : oi.dst = N) (hop : oi.op = .call { callee := .value x, args := #[], argTypes := ts }) (hx : a.eval x = .func (.func f) args #[])
    (h : Calls P f args w fun e w' => (∃ v, e = .returned v ∧ K (a.put N v) w') ∨ ∃ ch, e = .panicked ch ∧ Q (.panic ch) a w') : if Region.wanted oi (yielded ops a.tmps) = true then Oper.wp P oi a w K Q else K (a.put N undef) w := by
  refine callP_ f args hw hN ?_ h
  have he := enters_ hf hname hb args w
  unfold execOp
  simp [hop, resolve, Deferred.ofValue, invoke, hx, he]
end
end Go.Proofs.Ytkjdblbgmomieaa.PSh
end
