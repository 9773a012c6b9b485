/- The pool in memory: a struct, its row of objects, and a row of slots for each, no two of them the same; and pool.at. -/
import Derived.Test.YtcpomchijogblaaHShape
import Derived.Test.YtcpomchijogblaaStr
namespace Go.Proofs.Ytcpomchijogblaa.PPo
open Go.RowKit Go.Proofs.YtcpomchijogblaaW.PrintWords Go.Proofs.YtcpomchijogblaaW.PrintLast Go.Proofs.YtcpomchijogblaaW.PrintMore Go.Proofs.Ytcpomchijogblaa.Str
set_option linter.unusedVariables false
set_option linter.unusedSimpArgs false

/-- An object's cells: its shape, and where its slots lie. -/
def kO : Kd (S31 × Nat × Nat) := Kd.pair k31 (Kd.scalar (fun q : Nat × Nat => Value.slice (some ⟨q.1, 0, none⟩) q.2 q.2) (fun _ => rfl))
theorem kO_open {w : World} {x : S31 × Nat × Nat} {cs : List Value} (h : kO.K w x cs) : cs = [.int .i64 x.1.f0, .int .i64 x.1.f1, .slice (some ⟨x.2.1, 0, none⟩) x.2.2 x.2.2] := by
  obtain ⟨_, _, rfl, s0, s1⟩ := h
  obtain rfl := k31_open s0
  obtain rfl : _ = [_] := s1
  rfl
theorem kO_mkM (w : World) (base : Nat) (ok : Nat → Prop) (x : S31 × Nat × Nat) : kO.M w base ok x [.int .i64 x.1.f0, .int .i64 x.1.f1, .slice (some ⟨x.2.1, 0, none⟩) x.2.2 x.2.2] := ⟨[.int .i64 x.1.f0, .int .i64 x.1.f1], [_], rfl, k31_mkM w base ok x.1, rfl⟩
def zO : S31 × Nat × Nat := (z31, 0, 0)
theorem at_O {w : World} {A : Option Addr} {n : Nat} {xs : List (S31 × Nat × Nat)} (h : Kd.C kO w A n xs) (i : Int) (h0 : 0 ≤ i) (h1 : i < n) : ∃ ad, A = some ad ∧ w.cell? (ad.add (i.toNat * 3)) = some (.int .i64 (xs.getD i.toNat zO).1.f0) ∧ w.cell? ⟨(ad.add (i.toNat * 3)).block, (ad.add (i.toNat * 3)).off + 1, none⟩ = some (.int .i64 (xs.getD i.toNat zO).1.f1) ∧ w.cell? ⟨(ad.add (i.toNat * 3)).block, (ad.add (i.toNat * 3)).off + 2, none⟩ = some (.slice (some ⟨(xs.getD i.toNat zO).2.1, 0, none⟩) (xs.getD i.toNat zO).2.2 (xs.getD i.toNat zO).2.2) := by
  obtain ⟨ad, c, e, _, hK, hc0⟩ := Kd.C_get h zO i h0 h1
  have hc : ∀ j u, c[j]? = some u → w.cell? (ad.add (i.toNat * 3 + j)) = some u := hc0
  obtain rfl := kO_open hK
  exact ⟨ad, e, hc 0 _ rfl, by rw [← add_field _ _ 1 (by omega)]; exact hc 1 _ rfl, by rw [← add_field _ _ 2 (by omega)]; exact hc 2 _ rfl⟩

def raw : List S73 → List Nat → List (S31 × Nat × Nat)
  | x :: l, b :: bs => (x.f0, b, x.f1.length) :: raw l bs
  | _, _ => []
theorem raw_len : ∀ (l : List S73) (bs : List Nat), bs.length = l.length → (raw l bs).length = l.length
  | [], [], _ => rfl
  | x :: l, b :: bs, h => congrArg (· + 1) (raw_len l bs (by simpa using h))
theorem raw_get : ∀ (l : List S73) (bs : List Nat), bs.length = l.length → ∀ i, i < l.length → (raw l bs).getD i zO = ((l.getD i z73).f0, bs.getD i 0, (l.getD i z73).f1.length)
  | x :: l, b :: bs, h, 0, _ => rfl
  | x :: l, b :: bs, h, i + 1, hi => by
    have := raw_get l bs (by simpa using h) i (by simpa using hi)
    simpa [raw] using this
theorem heap_lt {W : World} {k : Nat} {o : Obj} (h : W.heap[k]? = some o) : k < W.heap.size := (Array.getElem?_eq_some_iff.mp h).1
def cellsI (c : List Int) : Array Value := (c.map (Value.int .i64)).toArray

/-- An object that may be. -/
structure ObOk (x : S73) : Prop where
  lo : 0 ≤ x.f0.f0
  hi : x.f0.f0 ≤ 16
  len : x.f1.length = x.f0.f0.toNat
structure PoolD (lo : Nat) (ok : Nat → Prop) (W : World) (g : Nat) (v : Value) (bs : List Nat) (L : List S73) (n : Int) : Prop where
  top : W.heap[g]? = some (.cells #[v, .int .i64 n] 70 (0, 0))
  ge : lo ≤ g
  okg : ok g
  row : Kd.R kO 73 W lo ok v (raw L bs)
  len : bs.length = L.length
  nod : bs.Nodup
  ob : ∀ x ∈ L, ObOk x
  slots : ∀ i, i < L.length → lo ≤ bs.getD i 0 ∧ ok (bs.getD i 0) ∧ W.heap[bs.getD i 0]? = some (.cells (cellsI (L.getD i z73).f1) 2 (0, 0))
section
variable {lo : Nat} {ok : Nat → Prop} {W W' : World} {g : Nat} {v : Value} {bs : List Nat} {L : List S73} {n : Int}
theorem PoolD.step (h : PoolD lo ok W g v bs L n) (hm : ∀ k, ok k → k < W.heap.size → W'.heap[k]? = W.heap[k]?) : PoolD lo ok W' g v bs L n where
  top := (hm g h.okg (heap_lt h.top)).trans h.top
  ge := h.ge
  okg := h.okg
  row := Kd.R_step h.row hm
  len := h.len
  nod := h.nod
  ob := h.ob
  slots := fun i hi => by
    obtain ⟨h1, h2, h3⟩ := h.slots i hi
    exact ⟨h1, h2, (hm _ h2 (heap_lt h3)).trans h3⟩
theorem PoolD.below (h : PoolD lo ok W g v bs L n) (hb : Below W.heap.size W W') : PoolD lo ok W' g v bs L n := h.step (fun k _ hk => hb.block k hk)
/-- The row of objects, for the walks. -/
theorem PoolD.objs (h : PoolD lo ok W g v bs L n) : ∃ A c, v = .slice A L.length c ∧ L.length ≤ c ∧ Kd.C kO W A L.length (raw L bs) := by
  have hr := Kd.R_reads h.row
  rw [raw_len L bs h.len] at hr
  exact hr
end

/-- Why there is no such slot: 0, there is. -/
def trapP (L : List S73) (id s : Int) (q : Bool) : Int :=
  if id = 0 then 1 else if id < 0 ∨ (L.length : Int) < id then 2 else
    if s < 0 ∨ (L.getD (id - 1).toNat z73).f0.f0 ≤ s ∨ ptrB (L.getD (id - 1).toNat z73).f0.f0 (L.getD (id - 1).toNat z73).f0.f1 s ≠ q then 2 else 0

set_option maxHeartbeats 8000000 in
set_option maxRecDepth 100000 in
theorem pool_at.calls {lo : Nat} {ok : Nat → Prop} {g : Nat} {v : Value} {bs : List Nat} {L : List S73} {n : Int} (id s : Int) (q : Bool) (hid : -9223372036854775808 ≤ id) (w : World) (hP : PoolD lo ok w g v bs L n) :
    Calls Try.prog 58 #[.pointer (some ⟨g, 0, none⟩), .int .i64 id, .int .i64 s, .bool q] w fun e w' => ∃ r, e = .returned (.tuple #[r, .int .i64 (trapP L id s q)]) ∧ (trapP L id s q = 0 → r = .pointer (some ⟨bs.getD (id - 1).toNat 0, s.toNat, none⟩)) ∧ Below w.heap.size w w' := by
  have hu70 := Try.underlying70
  have hu73 := Try.underlying73
  have hu31 := Try.underlying31
  obtain ⟨A, c, rfl, hlc, hC⟩ := hP.objs
  have cg : w.cell? ⟨g, 0, none⟩ = some (.slice A L.length c) := (blk_cell hP.top 0).trans rfl
  have HP := Aside0.mk hP
  have HC := Aside0.mk hC
  have HI := Aside0.mk hid
  clear hP hC hid hlc
  by_cases h0 : id = 0
  · subst h0
    have et : trapP L 0 s q = 1 := if_pos rfl
    rw [et]
    clear et
    go_enter Try.func58, Try.ntmps58
    go_wp2
    go_ret2
    exact ⟨_, rfl, fun h => absurd h (by decide), Below.refl _ _⟩
  · have d0 : (id == 0) = false := beq_eq_false_iff_ne.mpr h0
    by_cases h1 : id < 0
    · have d1 : decide (id < 0) = true := decide_eq_true h1
      have et : trapP L id s q = 2 := by unfold trapP; rw [if_neg h0, if_pos (.inl h1)]
      rw [et]
      clear et h0 h1
      go_enter Try.func58, Try.ntmps58
      go_wp2
      go_ret2
      exact ⟨_, rfl, fun h => absurd h (by decide), Below.refl _ _⟩
    · have d1 : decide (id < 0) = false := decide_eq_false h1
      by_cases h2 : (L.length : Int) < id
      · have d2 : decide ((L.length : Int) < id) = true := decide_eq_true h2
        have et : trapP L id s q = 2 := by unfold trapP; rw [if_neg h0, if_pos (.inr h2)]
        rw [et]
        clear et h0 h1 h2
        go_enter Try.func58, Try.ntmps58
        go_wp2
        go_ret2
        exact ⟨_, rfl, fun h => absurd h (by decide), Below.refl _ _⟩
      · have d2 : decide ((L.length : Int) < id) = false := decide_eq_false h2
        obtain ⟨i, hi⟩ : ∃ i : Int, id - 1 = i := ⟨_, rfl⟩
        have hlt : i.toNat < L.length := by omega
        have hiw : IntKind.i64.wrap (id - 1) = i := (i64_w _).trans ((w64 (by omega) (by have := HC.out.2.1; omega)).trans hi)
        have d3 : (0 ≤ i ∧ i < (L.length : Int)) = True := eq_true ⟨by omega, by omega⟩
        have et0 : trapP L id s q = if s < 0 ∨ (L.getD i.toNat z73).f0.f0 ≤ s ∨ ptrB (L.getD i.toNat z73).f0.f0 (L.getD i.toNat z73).f0.f1 s ≠ q then 2 else 0 := by unfold trapP; rw [if_neg h0, if_neg (by omega), hi]
        have hO : ∀ W, Kd.C kO W A L.length (raw L bs) → ∃ ad, A = some ad ∧ W.cell? (ad.add (i.toNat * 3)) = some (.int .i64 (L.getD i.toNat z73).f0.f0) ∧ W.cell? ⟨(ad.add (i.toNat * 3)).block, (ad.add (i.toNat * 3)).off + 1, none⟩ = some (.int .i64 (L.getD i.toNat z73).f0.f1) ∧ W.cell? ⟨(ad.add (i.toNat * 3)).block, (ad.add (i.toNat * 3)).off + 2, none⟩ = some (.slice (some ⟨bs.getD i.toNat 0, 0, none⟩) (L.getD i.toNat z73).f1.length (L.getD i.toNat z73).f1.length) := fun W h => by
          have := at_O h i (by omega) (by omega)
          rw [raw_get L bs HP.out.len i.toNat hlt] at this
          exact this
        have hob := HP.out.ob _ (by rw [List.getD_eq_getElem?_getD, List.getElem?_eq_getElem hlt]; exact List.getElem_mem hlt : L.getD i.toNat z73 ∈ L)
        rw [hi, et0]
        clear et0 h0 h1 h2
        generalize bs.getD i.toNat 0 = b at hO ⊢
        generalize L.getD i.toNat z73 = x at hO hob ⊢
        obtain ⟨ad, rfl, o0, o1, o2⟩ := hO w HC.out
        have HO := Aside0.mk hO
        have HX := Aside0.mk hob
        clear hO hob hlt hi
        by_cases h5 : s < 0
        · have d5 : decide (s < 0) = true := decide_eq_true h5
          rw [if_pos (.inl h5)]
          clear h5
          go_enter Try.func58, Try.ntmps58
          go_wp2
          go_ret2
          exact ⟨_, rfl, fun h => absurd h (by decide), Below.refl _ _⟩
        · have d5 : decide (s < 0) = false := decide_eq_false h5
          by_cases h6 : x.f0.f0 ≤ s
          · have d6 : decide (s ≥ x.f0.f0) = true := decide_eq_true h6
            rw [if_pos (.inr (.inl h6))]
            clear h5 h6
            go_enter Try.func58, Try.ntmps58
            go_wp2
            go_ret2
            exact ⟨_, rfl, fun h => absurd h (by decide), Below.refl _ _⟩
          · have d6 : decide (s ≥ x.f0.f0) = false := decide_eq_false h6
            have hlen : x.f1.length = x.f0.f0.toNat := HX.out.len
            have d7 : (0 ≤ s ∧ s < (x.f1.length : Int)) = True := eq_true ⟨by omega, by omega⟩
            cases hpt : ptrB x.f0.f0 x.f0.f1 s <;> cases q
            · have hcall : ∀ W, Calls Try.prog 61 #[.agg #[.int .i64 x.f0.f0, .int .i64 x.f0.f1], .int .i64 s] W fun e w' => e = .returned (.bool false) ∧ Below W.heap.size W w' := fun W => hpt ▸ shape_Pointer.calls x.f0.f0 x.f0.f1 s HX.out.hi W
              rw [if_neg (fun h => h.elim h5 (fun h => h.elim h6 (fun h => h rfl)))]
              clear h5 h6 hpt hlen
              go_enter Try.func58, Try.ntmps58
              go_wp2_with fail
              refine (hcall _).mono ?_
              rintro e w4 ⟨rfl, hb⟩
              obtain ⟨ad_, he_, p0, p1, p2⟩ := HO.out w4 (Kd.C_below HC.out hb)
              obtain rfl := Option.some.inj he_
              have HB4 := Aside0.mk hb
              clear hb
              go_wp2
              go_ret2
              exact ⟨_, rfl, fun _ => by first | rfl | (congr 2; simp), HB4.out⟩
            · have hcall : ∀ W, Calls Try.prog 61 #[.agg #[.int .i64 x.f0.f0, .int .i64 x.f0.f1], .int .i64 s] W fun e w' => e = .returned (.bool false) ∧ Below W.heap.size W w' := fun W => hpt ▸ shape_Pointer.calls x.f0.f0 x.f0.f1 s HX.out.hi W
              rw [if_pos (.inr (.inr (by decide)))]
              clear h5 h6 hpt hlen
              go_enter Try.func58, Try.ntmps58
              go_wp2_with fail
              refine (hcall _).mono ?_
              rintro e w4 ⟨rfl, hb⟩
              obtain ⟨ad_, he_, p0, p1, p2⟩ := HO.out w4 (Kd.C_below HC.out hb)
              obtain rfl := Option.some.inj he_
              have HB4 := Aside0.mk hb
              clear hb
              go_wp2
              go_ret2
              exact ⟨_, rfl, fun h => absurd h (by decide), HB4.out⟩
            · have hcall : ∀ W, Calls Try.prog 61 #[.agg #[.int .i64 x.f0.f0, .int .i64 x.f0.f1], .int .i64 s] W fun e w' => e = .returned (.bool true) ∧ Below W.heap.size W w' := fun W => hpt ▸ shape_Pointer.calls x.f0.f0 x.f0.f1 s HX.out.hi W
              rw [if_pos (.inr (.inr (by decide)))]
              clear h5 h6 hpt hlen
              go_enter Try.func58, Try.ntmps58
              go_wp2_with fail
              refine (hcall _).mono ?_
              rintro e w4 ⟨rfl, hb⟩
              obtain ⟨ad_, he_, p0, p1, p2⟩ := HO.out w4 (Kd.C_below HC.out hb)
              obtain rfl := Option.some.inj he_
              have HB4 := Aside0.mk hb
              clear hb
              go_wp2
              go_ret2
              exact ⟨_, rfl, fun h => absurd h (by decide), HB4.out⟩
            · have hcall : ∀ W, Calls Try.prog 61 #[.agg #[.int .i64 x.f0.f0, .int .i64 x.f0.f1], .int .i64 s] W fun e w' => e = .returned (.bool true) ∧ Below W.heap.size W w' := fun W => hpt ▸ shape_Pointer.calls x.f0.f0 x.f0.f1 s HX.out.hi W
              rw [if_neg (fun h => h.elim h5 (fun h => h.elim h6 (fun h => h rfl)))]
              clear h5 h6 hpt hlen
              go_enter Try.func58, Try.ntmps58
              go_wp2_with fail
              refine (hcall _).mono ?_
              rintro e w4 ⟨rfl, hb⟩
              obtain ⟨ad_, he_, p0, p1, p2⟩ := HO.out w4 (Kd.C_below HC.out hb)
              obtain rfl := Option.some.inj he_
              have HB4 := Aside0.mk hb
              clear hb
              go_wp2
              go_ret2
              exact ⟨_, rfl, fun _ => by first | rfl | (congr 2; simp), HB4.out⟩
end Go.Proofs.Ytcpomchijogblaa.PPo
