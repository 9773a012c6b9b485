/- The pool and the reference's objects beside each other in memory; what each call of either answers and leaves. -/
import Derived.Test.YtcpomchijogblaaDoesLaw
import Derived.Test.YtcpomchijogblaaHPoolWipe
namespace Go.Proofs.Ytcpomchijogblaa.PPo
open Go.RowKit Go.Proofs.YtcpomchijogblaaW.PrintWords Go.Proofs.YtcpomchijogblaaW.PrintLast Go.Proofs.YtcpomchijogblaaW.PrintMore Go.Proofs.Ytcpomchijogblaa.Str
set_option linter.unusedVariables false
set_option linter.unusedSimpArgs false

def actBox (x : S25) : Obj := .cells #[.int .i64 x.f0, .int .i64 x.f1, .int .i64 x.f2, .bool x.f3, .int .i64 x.f4, .int .u16 x.f5] 25
/-- The pool (objects L), the reference's row (objects M), and, where there is one, the act's own block, apart from the pool's. -/
def DB (w : World) (g : Nat) (bx : Option (Nat × S25)) (L M : List S73) (A : Option Addr) (c : Nat) (W : World) : Prop :=
  ∃ (n : Int) (v : Value) (bs : List Nat) (S : Nat → Prop), PoolD w.heap.size S W g v bs L n ∧ Kd.V k82 82 W w.heap.size (fun k => ¬ S k) (.slice A M.length c) (M.map cv) ∧ (∀ k, S k → k < W.heap.size) ∧
    (∀ b x, bx = some (b, x) → W.heap[b]? = some (actBox x) ∧ ¬ S b) ∧ Below w.heap.size w W ∧ n = wordsL L ∧ (∀ y ∈ L, Ok2 y) ∧ (∀ y ∈ M, Ok2 y) ∧ L.length ≤ 60 ∧ M.length ≤ 60
theorem PoolD.bound {lo : Nat} {ok : Nat → Prop} {W : World} {g : Nat} {v : Value} {bs : List Nat} {L : List S73} {n : Int} (h : PoolD lo ok W g v bs L n) : PoolD lo (fun k => ok k ∧ k < W.heap.size) W g v bs L n where
  top := h.top
  ge := h.ge
  okg := ⟨h.okg, heap_lt h.top⟩
  row := Kd.R_mono (Kd.R_bound h.row) (fun k hk => ⟨hk.1, hk.2.2.1⟩)
  len := h.len
  nod := h.nod
  ob := h.ob
  slots := fun i hi => by
    obtain ⟨h1, h2, h3⟩ := h.slots i hi
    exact ⟨h1, ⟨h2, heap_lt h3⟩, h3⟩
section
variable {w : World} {g : Nat} {bx : Option (Nat × S25)} {L M : List S73} {A : Option Addr} {c : Nat} {W W' : World}
theorem DB.below (h : DB w g bx L M A c W) (hb : Below W.heap.size W W') : DB w g bx L M A c W' := by
  obtain ⟨n, v, bs, S, hP, hV, hS, hX, hB, h1, h2, h3, h4, h5⟩ := h
  exact ⟨n, v, bs, S, hP.below hb, Kd.V_below hV hb, fun k hk => Nat.lt_of_lt_of_le (hS k hk) hb.size, fun b x e => ⟨blk_below (hX b x e).1 hb, (hX b x e).2⟩, below_step hB hb, h1, h2, h3, h4, h5⟩
theorem DB.drew (h : DB w g bx L M A c W) : DB w g bx L M A c W.drew := h.below (below_drew1 (Below.refl _ _))
theorem DB.box (h : DB w g bx L M A c W) (x : S25) : DB w g (some (W.heap.size, x)) L M A c (W.alloc (actBox x)) := by
  obtain ⟨n, v, bs, S, hP, hV, hS, hX, hB, h1, h2, h3, h4, h5⟩ := h
  have hb : Below W.heap.size W (W.alloc (actBox x)) := below_alloc (Below.refl _ _) _
  refine ⟨n, v, bs, S, hP.below hb, Kd.V_below hV hb, fun k hk => Nat.lt_of_lt_of_le (hS k hk) hb.size, fun b y e => ?_, below_step hB hb, h1, h2, h3, h4, h5⟩
  injection e with e
  injection e with e1 e2
  subst e1
  subst e2
  exact ⟨blk_new W _, fun hk => Nat.lt_irrefl _ (hS _ hk)⟩
theorem DB.noBox (h : DB w g bx L M A c W) : DB w g none L M A c W := by
  obtain ⟨n, v, bs, S, hP, hV, hS, hX, hr⟩ := h
  exact ⟨n, v, bs, S, hP, hV, hS, (fun _ _ e => by cases e), hr⟩
theorem DB.nilRef (h : DB w g bx L M A c W) : DB w g bx L [] none 0 W := by
  obtain ⟨n, v, bs, S, hP, hV, hS, hX, hB, h1, h2, h3, h4, h5⟩ := h
  exact ⟨n, v, bs, S, hP, Kd.V_nil _ _ _ _ _, hS, hX, hB, h1, h2, by simp, h4, by simp⟩
theorem DB.bel (h : DB w g bx L M A c W) : Below w.heap.size w W := by
  obtain ⟨n, v, bs, S, hP, hV, hS, hX, hB, -⟩ := h
  exact hB
theorem DB.cell {b : Nat} {x : S25} (h : DB w g (some (b, x)) L M A c W) (j : Nat) : W.cell? ⟨b, j, none⟩ = #[.int .i64 x.f0, .int .i64 x.f1, .int .i64 x.f2, .bool x.f3, .int .i64 x.f4, .int .u16 x.f5][j]? := by
  obtain ⟨n, v, bs, S, hP, hV, hS, hX, -⟩ := h
  exact blk_cell (hX b x rfl).1 j
/-- The pool changes; the reference's row and the act's block stay. -/
theorem DB.pool (h : DB w g bx L M A c W) : ∃ (n : Int) (v : Value) (bs : List Nat) (S : Nat → Prop), PoolD w.heap.size S W g v bs L n ∧ (∀ k, W.heap.size ≤ k → S k) ∧ w.heap.size ≤ W.heap.size ∧ n = wordsL L ∧ (∀ y ∈ L, Ok2 y) ∧ L.length ≤ 60 ∧
    ∀ (W' : World) (v' : Value) (bs' : List Nat) (L' : List S73), PoolD w.heap.size S W' g v' bs' L' (wordsL L') → (∀ k, ¬ S k → k < W.heap.size → W'.heap[k]? = W.heap[k]?) → Below w.heap.size W W' → (∀ y ∈ L', Ok2 y) → L'.length ≤ 60 → DB w g bx L' M A c W' := by
  obtain ⟨n, v, bs, S, hP, hV, hS, hX, hB, h1, h2, h3, h4, h5⟩ := h
  refine ⟨n, v, bs, fun k => S k ∨ W.heap.size ≤ k, hP.mono (fun k hk => .inl hk), fun k hk => .inr hk, below_size hB, h1, h2, h4, fun W' v' bs' L' hP' hk hb ho' hl' => ?_⟩
  have hsz : W.heap.size ≤ W'.heap.size := hb.size
  refine ⟨wordsL L', v', bs', fun k => (S k ∨ W.heap.size ≤ k) ∧ k < W'.heap.size, hP'.bound, ?_, fun k hk => hk.2, fun b x e => ?_, hB.trans hb, rfl, ho', h3, hl', h5⟩
  · have hV2 := Kd.V_step (Kd.V_bound hV) (w1 := W') (fun k hk9 hlt => hk k (fun q => q.elim hk9.1 (fun q => by omega)) hlt)
    exact Kd.V_mono hV2 (fun k hk q => q.1.elim hk.1 (fun q => by have := hk.2; omega))
  · obtain ⟨hx1, hx2⟩ := hX b x e
    have hlt := heap_lt hx1
    have hn : ¬ (S b ∨ W.heap.size ≤ b) := fun q => q.elim hx2 (fun q => by omega)
    exact ⟨(hk b hn hlt).trans hx1, fun q => hn q.1⟩
/-- The reference's row changes; the pool stays. -/
theorem DB.ref (h : DB w g bx L M A c W) : ∃ P0 : Nat → Prop, Kd.V k82 82 W W.heap.size (fun k => P0 k) (.slice A M.length c) (M.map cv) ∧ (∀ y ∈ M, Ok2 y) ∧ M.length ≤ 60 ∧
    ∀ (W' : World) (b : Nat) (v0 : Value) (M' : List S73), Kd.V k82 82 W' b (fun k => P0 k ∨ W.heap.size ≤ k) v0 (M'.map cv) → Below W.heap.size W W' → (∀ y ∈ M', Ok2 y) → M'.length ≤ 60 → ∃ A' c', v0 = .slice A' M'.length c' ∧ DB w g bx L M' A' c' W' := by
  obtain ⟨n, v, bs, S, hP, hV, hS, hX, hB, h1, h2, h3, h4, h5⟩ := h
  refine ⟨fun k => ¬ S k, Kd.V_map hV (fun _ h => h), h3, h5, fun W' b v0 M' hV' hb ho' hl' => ?_⟩
  obtain ⟨A', c', e⟩ := Kd.V_slice hV'
  rw [List.length_map] at e
  subst e
  refine ⟨A', c', rfl, n, v, bs, S, hP.below hb, ?_, fun k hk => Nat.lt_of_lt_of_le (hS k hk) hb.size, fun b x e => ⟨blk_below (hX b x e).1 hb, (hX b x e).2⟩, below_step hB hb, h1, h2, ho', h4, hl'⟩
  exact Kd.V_mono (Kd.V_map hV' (fun _ h => h) : Kd.V k82 82 W' w.heap.size (fun k => ¬ S k ∨ W.heap.size ≤ k) _ _) (fun k hk q => hk.elim (fun e => e q) (fun e => by have := hS k q; omega))
theorem DB.reads (h : DB w g bx L M A c W) : Kd.C k82 W A M.length (M.map cv) ∧ M.length ≤ c ∧ (∀ y ∈ M, Ok2 y) ∧ M.length ≤ 60 := by
  obtain ⟨n, v, bs, S, hP, hV, hS, hX, hB, h1, h2, h3, h4, h5⟩ := h
  obtain ⟨e, hl, hC⟩ := Kd.V_reads' hV
  rw [List.length_map] at hC
  exact ⟨hC, hl, h3, h5⟩
theorem ok_store {L : List S73} (ho : ∀ x ∈ L, Ok2 x) (id s x : Int) : ∀ y ∈ storeL L id s x, Ok2 y := by
  by_cases hi : (id - 1).toNat < L.length
  · intro y hy
    have hob := ob_store (fun x hx => (ho x hx).ob) id s x y hy
    unfold storeL at hy
    rcases List.mem_or_eq_of_mem_set hy with hy | rfl
    · exact ho y hy
    · have := ok_at ho hi
      exact ⟨hob, this.m0, this.m1⟩
  · rw [storeL_out hi]
    exact ho
theorem wordsL_store {L : List S73} (id s x : Int) : wordsL (storeL L id s x) = wordsL L := by
  unfold storeL
  exact wordsL_set L _ _ (by show (List.set _ _ _).length = _; rw [List.length_set])

theorem db_Len (h : DB w g bx L M A c W) : Calls Try.prog 19 #[.pointer (some ⟨g, 0, none⟩)] W fun e w' => e = .returned (.int .i64 (L.length : Int)) ∧ w' = W := by
  obtain ⟨n, v, bs, S, hP, -⟩ := h
  exact pool_Len.calls W hP
theorem db_Words (h : DB w g bx L M A c W) : Calls Try.prog 24 #[.pointer (some ⟨g, 0, none⟩)] W fun e w' => e = .returned (.int .i64 (wordsL L)) ∧ w' = W := by
  obtain ⟨n, v, bs, S, hP, hV, hS, hX, hB, h1, -⟩ := h
  rw [← h1]
  exact pool_Words.calls W hP
theorem db_Slot (h : DB w g bx L M A c W) (id s : Int) (hid : -9223372036854775808 ≤ id) : Calls Try.prog 26 #[.pointer (some ⟨g, 0, none⟩), .int .i64 id, .int .i64 s] W fun e w' => e = .returned (.int .i64 (slotP L id s)) ∧ DB w g bx L M A c w' ∧ Below W.heap.size W w' := by
  have h0 := h
  obtain ⟨n, v, bs, S, hP, -⟩ := h
  exact (pool_Slot.calls id s hid W hP).mono fun e w' ⟨h1, h2⟩ => ⟨h1, h0.below h2, h2⟩
theorem db_Shape (h : DB w g bx L M A c W) (id : Int) : Calls Try.prog 16 #[.pointer (some ⟨g, 0, none⟩), .int .i64 id] W fun e w' => e = .returned (.agg #[.int .i64 (shapeP L id).f0, .int .i64 (shapeP L id).f1]) ∧ DB w g bx L M A c w' ∧ Below W.heap.size W w' := by
  have h0 := h
  obtain ⟨n, v, bs, S, hP, -⟩ := h
  exact (pool_Shape.calls id W hP).mono fun e w' ⟨h1, h2⟩ => ⟨h1, h0.below h2, h2⟩
theorem db_Load (h : DB w g bx L M A c W) (id s : Int) (q : Bool) (hid : -9223372036854775808 ≤ id) : Calls Try.prog 17 #[.pointer (some ⟨g, 0, none⟩), .int .i64 id, .int .i64 s, .bool q] W fun e w' => e = .returned (.tuple #[.int .i64 (loadP L id s q), .int .i64 (trapP L id s q)]) ∧ DB w g bx L M A c w' ∧ Below W.heap.size W w' := by
  have h0 := h
  obtain ⟨n, v, bs, S, hP, -⟩ := h
  exact (pool_Load.calls id s q hid W hP).mono fun e w' ⟨h1, h2⟩ => ⟨h1, h0.below h2, h2⟩
theorem db_Store (h : DB w g bx L M A c W) (id s : Int) (q : Bool) (x : Int) (hid : -9223372036854775808 ≤ id) : Calls Try.prog 14 #[.pointer (some ⟨g, 0, none⟩), .int .i64 id, .int .i64 s, .bool q, .int .i64 x] W fun e w' => e = .returned (.int .i64 (trapP L id s q)) ∧ DB w g bx (if trapP L id s q = 0 then storeL L id s x else L) M A c w' := by
  obtain ⟨n, v, bs, S, hP, hfr, hsz, hn, ho, hl, hk⟩ := h.pool
  refine (pool_Store.calls id s q x hid W hP).mono ?_
  rintro e w' ⟨h1, w1, hb1, hw⟩
  obtain ⟨h2, h3⟩ := store_below (w0 := W) hP (Below.refl _ _) hb1 hw hsz
  rw [show n = wordsL (if trapP L id s q = 0 then storeL L id s x else L) by rw [hn]; split; rw [wordsL_store]; rfl] at h2
  refine ⟨h1, hk w' v bs _ h2 (fun k hnk hlt => ?_) h3 ?_ ?_⟩
  · by_cases ht : trapP L id s q = 0
    · rw [if_pos ht] at hw
      obtain ⟨t1, t2, -⟩ := trapP_zero ht
      have hsl := hP.slots (id - 1).toNat (by omega)
      rw [hw]
      exact (Below.heap_setCell w1 ⟨bs.getD (id - 1).toNat 0, s.toNat, none⟩ (.int .i64 x) k (fun e => hnk (e ▸ hsl.2.1))).trans (hb1.block k hlt)
    · rw [if_neg ht] at hw
      rw [hw]
      exact hb1.block k hlt
  · split
    · exact ok_store ho id s x
    · exact ho
  · split
    · rw [storeL_len]; exact hl
    · exact hl
theorem db_Make (h : DB w g bx L M A c W) (sl mk : Int) (h0 : 0 ≤ sl) (h1 : sl ≤ 16) (m0 : 0 ≤ mk) (m1 : mk < 65536) (hl : L.length < 60) : Calls Try.prog 12 #[.pointer (some ⟨g, 0, none⟩), .agg #[.int .i64 sl, .int .i64 mk]] W fun e w' => e = .returned (.int .i64 ((L.length : Int) + 1)) ∧ DB w g bx (L ++ [⟨⟨sl, mk⟩, List.replicate sl.toNat 0⟩]) M A c w' := by
  obtain ⟨n, v, bs, S, hP, hfr, hsz, hn, ho, hl2, hk⟩ := h.pool
  have hbd := wordsL_bd L ho
  refine (pool_Make.calls sl mk h0 h1 W hP hfr hsz ⟨by omega, by omega⟩ (by omega)).mono ?_
  rintro e w' ⟨g1, ⟨v1, b, g2⟩, g3, g4⟩
  have e2 : n + 1 + sl = wordsL (L ++ [(⟨⟨sl, mk⟩, List.replicate sl.toNat 0⟩ : S73)]) := by
    rw [wordsL_app, hn]
    show _ = wordsL L + 1 + ((List.replicate sl.toNat (0 : Int)).length : Int)
    rw [List.length_replicate]
    omega
  rw [e2] at g2
  refine ⟨g1, hk w' v1 _ _ g2 g4 g3 (fun y hy => ?_) (by rw [List.length_append]; simp; omega)⟩
  rcases List.mem_append.1 hy with hy | hy
  · exact ho y hy
  · rw [List.mem_singleton.1 hy]
    exact ⟨ob_new h0 h1, m0, m1⟩
theorem db_Wipe (h : DB w g bx L M A c W) : Calls Try.prog 23 #[.pointer (some ⟨g, 0, none⟩)] W fun e w' => e = .returned (.tuple #[]) ∧ DB w g bx [] M A c w' := by
  obtain ⟨n, v, bs, S, hP, hfr, hsz, hn, ho, hl2, hk⟩ := h.pool
  refine (pool_Wipe.calls W hP).mono ?_
  rintro e w' ⟨g1, ⟨v1, g2⟩, g3, g4⟩
  exact ⟨g1, hk w' v1 [] [] g2 (fun k hk _ => g4 k hk) g3 (by simp) (by simp)⟩
theorem db_rMake (h : DB w g bx L M A c W) (sl mk : Int) (h0 : 0 ≤ sl) (h1 : sl ≤ 16) (m0 : 0 ≤ mk) (m1 : mk < 65536) (hl : M.length < 60) : Calls Try.prog 20 #[.slice A M.length c, .agg #[.int .i64 sl, .int .i64 mk]] W fun e w' => ∃ A' c', e = .returned (.slice A' (M.length + 1) c') ∧ DB w g bx L (M ++ [⟨⟨sl, mk⟩, List.replicate sl.toNat 0⟩]) A' c' w' ∧ Below W.heap.size W w' := by
  obtain ⟨P0, hV, ho, hl2, hk⟩ := h.ref
  have hc := turntableref12_Make.calls P0 A c (M.map cv) sl mk _ W (by rw [List.length_map]; exact hV) (make_some M hl2 sl mk h0 h1)
  rw [List.length_map] at hc
  refine hc.mono ?_
  rintro e w' ⟨v0, rfl, hN, hb⟩
  obtain ⟨A', c', rfl, hd⟩ := hk w' _ v0 (M ++ [⟨⟨sl, mk⟩, List.replicate sl.toNat 0⟩]) (Kd.N_V (base' := W.heap.size) hN) hb (fun y hy => by
    rcases List.mem_append.1 hy with hy | hy
    · exact ho y hy
    · rw [List.mem_singleton.1 hy]
      exact ⟨ob_new h0 h1, m0, m1⟩) (by rw [List.length_append]; simp; omega)
  exact ⟨A', c', by rw [List.length_append]; rfl, hd, hb⟩
theorem db_rStore (h : DB w g bx L M A c W) (id s : Int) (q : Bool) (x : Int) (hid : id ≤ 9223372036854775807) : Calls Try.prog 22 #[.slice A M.length c, .int .i64 id, .int .i64 s, .bool q, .int .i64 x] W fun e w' => ∃ A' c', e = .returned (.tuple #[.slice A' M.length c', .int .i64 (trapP M id s q)]) ∧ DB w g bx L (if trapP M id s q = 0 then storeL M id s x else M) A' c' w' ∧ Below W.heap.size W w' := by
  obtain ⟨P0, hV, ho, hl2, hk⟩ := h.ref
  obtain ⟨k, hev⟩ := (store_ev ho hl2 id s q x hid).rounds
  have hc := turntableref12_Store.calls k P0 A c (M.map cv) id s q x _ _ W (by rw [List.length_map]; exact hV) hev
  rw [List.length_map] at hc
  refine hc.mono ?_
  rintro e w' ⟨v0, rfl, hN, hb⟩
  have hlen : (if trapP M id s q = 0 then storeL M id s x else M).length = M.length := by split; rw [storeL_len]; rfl
  obtain ⟨A', c', rfl, hd⟩ := hk w' _ v0 _ hN hb (by split; exact ok_store ho id s x; exact ho) (by rw [hlen]; exact hl2)
  exact ⟨A', c', by rw [hlen], hd, hb⟩
theorem db_rLoad (h : DB w g bx L M A c W) (id s : Int) (q : Bool) (hid : id ≤ 9223372036854775807) : Calls Try.prog 21 #[.slice A M.length c, .int .i64 id, .int .i64 s, .bool q] W fun e w' => e = .returned (.tuple #[.int .i64 (loadP M id s q), .int .i64 (trapP M id s q)]) ∧ DB w g bx L M A c w' ∧ Below W.heap.size W w' := by
  obtain ⟨hC, hl, ho, hl2⟩ := h.reads
  obtain ⟨k, hev⟩ := (load_ev ho id s q hid).rounds
  have hc := turntableref12_Load.calls k A c (M.map cv) id s q _ _ W (by rw [List.length_map]; exact hC) (by rw [List.length_map]; exact hl) hev
  rw [List.length_map] at hc
  exact hc.mono fun e w' ⟨h1, h2⟩ => ⟨h1, h.below h2, h2⟩
theorem db_rSlot (h : DB w g bx L M A c W) (id s : Int) (hid : id ≤ 9223372036854775807) : Calls Try.prog 27 #[.slice A M.length c, .int .i64 id, .int .i64 s] W fun e w' => e = .returned (.int .i64 (slotP M id s)) ∧ DB w g bx L M A c w' ∧ Below W.heap.size W w' := by
  obtain ⟨hC, hl, ho, hl2⟩ := h.reads
  obtain ⟨k, hev⟩ := (slot_ev ho id s hid).rounds
  have hc := turntableref12_Slot.calls k A c (M.map cv) id s _ W (by rw [List.length_map]; exact hC) (by rw [List.length_map]; exact hl) hev
  rw [List.length_map] at hc
  exact hc.mono fun e w' ⟨h1, h2⟩ => ⟨h1, h.below h2, h2⟩
theorem db_rWords (h : DB w g bx L M A c W) : Calls Try.prog 25 #[.slice A M.length c] W fun e w' => e = .returned (.int .i64 (wordsL M)) ∧ DB w g bx L M A c w' ∧ Below W.heap.size W w' := by
  obtain ⟨hC, hl, ho, hl2⟩ := h.reads
  obtain ⟨k, hev⟩ := (words_ev ho hl2).rounds
  have hc := turntableref12_Words.calls k A c (M.map cv) _ W (by rw [List.length_map]; exact hC) (by rw [List.length_map]; exact hl) hev
  rw [List.length_map] at hc
  exact hc.mono fun e w' ⟨h1, h2⟩ => ⟨h1, h.below h2.below, h2.below⟩
theorem db_rShape (h : DB w g bx L M A c W) (id : Int) (hid : id ≤ 9223372036854775807) : Calls Try.prog 28 #[.slice A M.length c, .int .i64 id] W fun e w' => e = .returned (.agg #[.int .i64 (shapeP M id).f0, .int .i64 (shapeP M id).f1]) ∧ DB w g bx L M A c w' ∧ Below W.heap.size W w' := by
  obtain ⟨hC, hl, ho, hl2⟩ := h.reads
  have hc := turntableref12_Shape.calls A c (M.map cv) id _ _ W (by rw [List.length_map]; exact hC) (by rw [List.length_map]; exact hl) (shape_some M id hid)
  rw [List.length_map] at hc
  exact hc.mono fun e w' ⟨h1, h2⟩ => ⟨h1, h.below h2, h2⟩
theorem db_Reach (h : DB w g bx L M A c W) (A0 : Option Addr) (c0 : Nat) (l : List Int) (hr0 : Kd.C (Kd.int .i64) W A0 l.length l) : Calls Try.prog 18 #[.pointer (some ⟨g, 0, none⟩), .slice A0 l.length c0] W fun e w' => (∃ A, e = .returned (.slice A (reachP L l).length (reachP L l).length) ∧ Kd.C (Kd.int .i64) w' A (reachP L l).length (reachP L l)) ∧ Below W.heap.size W w' := by
  obtain ⟨n, v, bs, S, hP, hV, hS, hX, hB, h1, h2, h3, h4, h5⟩ := h
  exact pool_Reach.calls A0 c0 l W hP hr0 (by omega)
theorem db_rReach (h : DB w g bx L M A c W) (A0 : Option Addr) (c0 : Nat) (l : List Int) (hr0 : Kd.C (Kd.int .i64) W A0 l.length l) (hlc : l.length ≤ c0) (hl60 : l.length ≤ 60) : Calls Try.prog 30 #[.slice A M.length c, .slice A0 l.length c0] W fun e w' => (∃ A c, e = .returned (.slice A (reachP M l).length c) ∧ (reachP M l).length ≤ c ∧ Kd.C (Kd.int .i64) w' A (reachP M l).length (reachP M l)) ∧ Below W.heap.size W w' := by
  obtain ⟨hC, hl, ho, hl2⟩ := h.reads
  obtain ⟨k, hev⟩ := (reach_ev ho hl2 l hl60).rounds
  have hc := turntableref12_Reach.calls k A c (M.map cv) A0 c0 l _ W (by rw [List.length_map]; exact hC) (by rw [List.length_map]; exact hl) hr0 hlc hev
  rw [List.length_map] at hc
  refine hc.mono ?_
  rintro e w' ⟨v0, rfl, hR, hb⟩
  obtain ⟨A1, c1, e1, h1, h2⟩ := Kd.R_reads hR
  exact ⟨⟨A1, c1, by rw [e1], h1, h2⟩, hb⟩
end
end Go.Proofs.Ytcpomchijogblaa.PPo
