import Derived.Test.YtkgjbdbhpohkiaaMr17
import Derived.Test.YtkgjbdbhpohkiaaMr7
import Derived.Test.YtkgjbdbhpohkiaaMr5
-- from YtkgjbdbhpohkiaaHSame
section
namespace Go.Proofs.Ytkgjbdbhpohkiaa.PLi
open Go.RowKit Go.Proofs.YtkgjbdbhpohkiaaW.PrintWords Go.Proofs.YtkgjbdbhpohkiaaW.PrintLast Go.Proofs.YtkgjbdbhpohkiaaW.PrintMore Go.Proofs.Ytkgjbdbhpohkiaa.Str Go.Proofs.Ytkgjbdbhpohkiaa.Zip
set_option linter.unusedVariables false
set_option linter.unusedSimpArgs false
theorem blk_cellB {w w1 : World} {a : Addr} {v : Value} (h : w.cell? a = some v) (hb : Below w.heap.size w w1) : w1.cell? a = some v := (hb.cell (World.block_lt_of_cell? w _ h)).trans h
def r05_Ints.f (l m : List Int) : Option Bool := if l = m ∧ l.length ≤ 140737488355328 then some true else none
set_option maxHeartbeats 8000000 in
set_option maxRecDepth 100000 in
theorem r05_Ints.calls (A0 : Option Addr) (c0 : Nat) (l : List Int) (A1 : Option Addr) (c1 : Nat) (m : List Int) (r : Bool) (w : World) (hr0 : Kd.C (Kd.int .i64) w A0 l.length l) (hc0 : l.length ≤ c0) (hr1 : Kd.C (Kd.int .i64) w A1 m.length m) (hc1 : m.length ≤ c1) (h : r05_Ints.f l m = some r) :
  Calls Try.prog 41 #[.slice A0 l.length c0, .slice A1 m.length c1] w fun e w' => e = .returned (.bool r) ∧ Below w.heap.size w w' := by
 unfold r05_Ints.f at h
 by_cases hg : l = m ∧ l.length ≤ 140737488355328
 rotate_left
 ·rw [if_neg hg] at h
  cases h
 rw [if_pos hg] at h
 obtain rfl := Option.some.inj h
 obtain ⟨rfl, hlen⟩ := hg
 have HR0 := Aside0.mk hr0
 have HR1 := Aside0.mk hr1
 have HLN := Aside0.mk hlen
 clear hr0 hr1 hlen h
 go_enter Try.func41, Try.ntmps41
 go_wp2
 (try simp only [Act.put, List.setIfInBounds_toArray, List.set_cons_zero, List.set_cons_succ])
 go_loopg [5] l.length (fun kq v5 w' => ∃ x : Int, v5 = .int .i64 x ∧ Aside0 (0 ≤ x ∧ x ≤ (l.length : Int)) ∧ Aside0 (Below w.heap.size w w') ∧ Aside0 (kq = l.length - x.toNat))
 case atStart => exact ⟨0, rfl, ⟨by omega⟩, ⟨Below.refl _ _⟩, ⟨rfl⟩⟩
 case round =>
  obtain ⟨x, rfl, HI, HB, HQ⟩ := hrel
  by_cases hi : x < (l.length : Int)
  ·have p1 : (0 ≤ x) = True := eq_true HI.out.1
   have q1 : (x < (l.length : Int)) = True := eq_true hi
   have d1_ : decide (x < (l.length : Int)) = true := decide_eq_true hi
   have HXI := Aside0.mk (show x + 1 ≤ (l.length : Int) by omega)
   obtain ⟨ad, e1, x1⟩ := Kd.at_int HR0.out x HI.out.1 hi
   obtain ⟨ad2, e2, x2⟩ := Kd.at_int HR1.out x HI.out.1 hi
   subst e1
   subst e2
   replace x1 := (HB.out.cell (World.block_lt_of_cell? w _ x1)).trans x1
   replace x2 := (HB.out.cell (World.block_lt_of_cell? w _ x2)).trans x2
   clear hi
   go_upto_region 6 with (fail)
   refine start_ (n := 9) (S := fun w' => w'.cell? (ad.add x.toNat) = some (.int .i64 (rd l x)) ∧ w'.cell? (ad2.add x.toNat) = some (.int .i64 (rd l x))) (ds := []) #[false, false, false, false, false, false, false, false, false] (by kernel_rfl) rfl rfl ⟨x1, x2⟩ (fun hHeld => ?_)
   refine pure_ (i := 0) (N := some 17) (v := ?_) (a' := ?_) #[true, false, false, false, false, false, false, false, false] rfl rfl (by kernel_rfl) (fun _ _ _ h => h) (Or.inl ⟨by rfl, ?_⟩) ?_ ?_
   rotate_left
   ·intro w'
    go_simp
    with_reducible rfl
   rotate_left
   ·simp only [Act.put, List.setIfInBounds_toArray, List.set_cons_zero, List.set_cons_succ, i64_w, i32_w]
    rfl
   refine pure_ (i := 1) (N := some 18) (v := ?_) (a' := ?_) #[true, true, false, false, false, false, false, false, false] rfl rfl (by kernel_rfl) (fun _ _ _ h => h) (Or.inl ⟨by rfl, ?_⟩) ?_ ?_
   rotate_left
   ·intro w'
    go_simp
    with_reducible rfl
   rotate_left
   ·simp only [Act.put, List.setIfInBounds_toArray, List.set_cons_zero, List.set_cons_succ, i64_w, i32_w]
    rfl
   refine pure_ (i := 2) (N := some 19) (v := ?_) (a' := ?_) #[true, true, true, false, false, false, false, false, false] rfl rfl (by kernel_rfl) (fun _ _ _ h => h) (Or.inl ⟨by rfl, ?_⟩) ?_ ?_
   rotate_left
   ·intro w'
    go_simp
    with_reducible rfl
   rotate_left
   ·simp only [Act.put, List.setIfInBounds_toArray, List.set_cons_zero, List.set_cons_succ, i64_w, i32_w]
    rfl
   refine pure_ (i := 4) (N := some 21) (v := ?_) (a' := ?_) #[true, true, true, false, true, false, false, false, false] rfl rfl (by kernel_rfl) (fun _ _ _ h => h) (Or.inl ⟨by rfl, ?_⟩) ?_ ?_
   rotate_left
   ·intro w'
    go_simp
    with_reducible rfl
   rotate_left
   ·simp only [Act.put, List.setIfInBounds_toArray, List.set_cons_zero, List.set_cons_succ, i64_w, i32_w]
    rfl
   refine pure_ (i := 5) (N := some 22) (v := ?_) (a' := ?_) #[true, true, true, false, true, true, false, false, false] rfl rfl (by kernel_rfl) (fun _ _ _ h => h) (Or.inl ⟨by rfl, ?_⟩) ?_ ?_
   rotate_left
   ·intro w'
    go_simp
    with_reducible rfl
   rotate_left
   ·simp only [Act.put, List.setIfInBounds_toArray, List.set_cons_zero, List.set_cons_succ, i64_w, i32_w]
    rfl
   refine pure_ (i := 6) (N := some 23) (v := ?_) (a' := ?_) #[true, true, true, false, true, true, true, false, false] rfl rfl (by kernel_rfl) (fun _ _ _ h => h) (Or.inl ⟨by rfl, ?_⟩) ?_ ?_
   rotate_left
   ·intro w'
    go_simp
    with_reducible rfl
   rotate_left
   ·simp only [Act.put, List.setIfInBounds_toArray, List.set_cons_zero, List.set_cons_succ, i64_w, i32_w]
    rfl
   refine take_ (i := 3) (N := some 20) (v := ?_) (a' := ?_) #[true, true, true, true, true, true, true, false, false] rfl rfl (by kernel_rfl) (fun _ _ _ h => h) (Or.inl ⟨by rfl, ?_⟩) hHeld ?_ ?_
   rotate_left
   ·rintro w' ⟨s0, s1⟩
    go_simp
    with_reducible rfl
   rotate_left
   ·simp only [Act.put, List.setIfInBounds_toArray, List.set_cons_zero, List.set_cons_succ, i64_w, i32_w]
    rfl
   refine take_ (i := 7) (N := some 24) (v := ?_) (a' := ?_) #[true, true, true, true, true, true, true, true, false] rfl rfl (by kernel_rfl) (fun _ _ _ h => h) (Or.inl ⟨by rfl, ?_⟩) hHeld ?_ ?_
   rotate_left
   ·rintro w' ⟨s0, s1⟩
    go_simp
    with_reducible rfl
   rotate_left
   ·simp only [Act.put, List.setIfInBounds_toArray, List.set_cons_zero, List.set_cons_succ, i64_w, i32_w]
    rfl
   refine pure_ (i := 8) (N := some 25) (v := ?_) (a' := ?_) #[true, true, true, true, true, true, true, true, true] rfl rfl (by kernel_rfl) (fun _ _ _ h => h) (Or.inl ⟨by rfl, ?_⟩) ?_ ?_
   rotate_left
   ·intro w'
    go_simp
    with_reducible rfl
   rotate_left
   ·simp only [Act.put, List.setIfInBounds_toArray, List.set_cons_zero, List.set_cons_succ, i64_w, i32_w]
    rfl
   refine done_ (by kernel_rfl) ?_
   go_wp2
   go_roundg (l.length - (x + 1).toNat)
   case measure => have := HQ.out; have := HXI.out; have := HI.out; omega
   case rel => exact ⟨x + 1, by rw [show wrap64 (x + 1) = x + 1 from w64 (by have := HI.out; omega) (by have := HXI.out; have := HLN.out; omega)], ⟨by have := HXI.out; have := HI.out; omega⟩, ⟨below_drew1 HB.out⟩, ⟨rfl⟩⟩
  ·have d1_ : decide (x < (l.length : Int)) = false := decide_eq_false hi
   clear hi
   go_wp2
   go_ret
   exact ⟨rfl, HB.out⟩
theorem ints_self (l : List Int) (h : l.length ≤ 140737488355328) : r05_Ints.f l l = some true := if_pos ⟨rfl, h⟩
set_option maxHeartbeats 8000000 in
set_option maxRecDepth 100000 in
theorem sameinst_calls (x : S37) (A0 A1 : Option Addr) (c0 c1 : Nat) (w : World) (hr0 : Kd.C (Kd.int .i64) w A0 x.f5.length x.f5) (hc0 : x.f5.length ≤ c0) (hr1 : Kd.C (Kd.int .i64) w A1 x.f5.length x.f5) (hc1 : x.f5.length ≤ c1) (hlen : x.f5.length ≤ 140737488355328) :
  Calls Try.prog 42 #[.agg #[.int .i64 x.f0, .int .i64 x.f1, .int .i64 x.f2, .int .i64 x.f3, .int .i64 x.f4, .slice A0 x.f5.length c0, .int .i64 x.f6.f0, .int .i64 x.f6.f1], .agg #[.int .i64 x.f0, .int .i64 x.f1, .int .i64 x.f2, .int .i64 x.f3, .int .i64 x.f4, .slice A1 x.f5.length c1, .int .i64 x.f6.f0, .int .i64 x.f6.f1]] w fun e w' => e = .returned (.bool true) ∧ Below w.heap.size w w' := by
 have hu37 := Try.underlying37
 have hu35 := Try.underlying35
 have heq35 : ∀ (u v x y : Int) (W : World), (Op.equalIn 10000 35 (.agg #[.int .i64 u, .int .i64 v]) (.agg #[.int .i64 x, .int .i64 y])).run Try.prog W = .ok (u == x && (v == y)) W := fun u v x y W => eqA2 (d := 9998) Try.underlying35 Try.underlying3 (fun _ _ _ => by show _ = _; kernel_rfl) (fun _ _ _ => by show _ = _; kernel_rfl) (by kernel_rfl) u v x y W
 have HB1 := Aside0.mk (blk_new w (.cells #[.int .i64 x.f0, .int .i64 x.f1, .int .i64 x.f2, .int .i64 x.f3, .int .i64 x.f4, .slice A0 x.f5.length c0, .int .i64 x.f6.f0, .int .i64 x.f6.f1] 37))
 have HB2 := Aside0.mk (blk_alloc HB1.out (.cells #[.int .i64 x.f0, .int .i64 x.f1, .int .i64 x.f2, .int .i64 x.f3, .int .i64 x.f4, .slice A1 x.f5.length c1, .int .i64 x.f6.f0, .int .i64 x.f6.f1] 37))
 have HB3 := Aside0.mk (blk_new (w.alloc (.cells #[.int .i64 x.f0, .int .i64 x.f1, .int .i64 x.f2, .int .i64 x.f3, .int .i64 x.f4, .slice A0 x.f5.length c0, .int .i64 x.f6.f0, .int .i64 x.f6.f1] 37)) (.cells #[.int .i64 x.f0, .int .i64 x.f1, .int .i64 x.f2, .int .i64 x.f3, .int .i64 x.f4, .slice A1 x.f5.length c1, .int .i64 x.f6.f0, .int .i64 x.f6.f1] 37))
 have HB := Aside0.mk (below_alloc (below_alloc (Below.refl w.heap.size w) (.cells #[.int .i64 x.f0, .int .i64 x.f1, .int .i64 x.f2, .int .i64 x.f3, .int .i64 x.f4, .slice A0 x.f5.length c0, .int .i64 x.f6.f0, .int .i64 x.f6.f1] 37)) (.cells #[.int .i64 x.f0, .int .i64 x.f1, .int .i64 x.f2, .int .i64 x.f3, .int .i64 x.f4, .slice A1 x.f5.length c1, .int .i64 x.f6.f0, .int .i64 x.f6.f1] 37))
 have HR0 := Aside0.mk (Kd.C_below hr0 HB.out)
 have HR1 := Aside0.mk (Kd.C_below hr1 HB.out)
 have HS := (show (w.alloc (.cells #[.int .i64 x.f0, .int .i64 x.f1, .int .i64 x.f2, .int .i64 x.f3, .int .i64 x.f4, .slice A0 x.f5.length c0, .int .i64 x.f6.f0, .int .i64 x.f6.f1] 37)).heap.size = w.heap.size + 1 by simp)
 go_enter Try.func42, Try.ntmps42
 go_upto_region 1 with (fail)
 rw [HS] at HB3
 clear HS
 generalize (w.alloc (.cells #[.int .i64 x.f0, .int .i64 x.f1, .int .i64 x.f2, .int .i64 x.f3, .int .i64 x.f4, .slice A0 x.f5.length c0, .int .i64 x.f6.f0, .int .i64 x.f6.f1] 37)).alloc (.cells #[.int .i64 x.f0, .int .i64 x.f1, .int .i64 x.f2, .int .i64 x.f3, .int .i64 x.f4, .slice A1 x.f5.length c1, .int .i64 x.f6.f0, .int .i64 x.f6.f1] 37) = W at HB2 HB3 HB HR0 HR1 ⊢
 have a0 := blk_cell HB2.out 0
 have b0 := blk_cell HB3.out 0
 have a1 := blk_cell HB2.out 1
 have b1 := blk_cell HB3.out 1
 have a2 := blk_cell HB2.out 2
 have b2 := blk_cell HB3.out 2
 have a3 := blk_cell HB2.out 3
 have b3 := blk_cell HB3.out 3
 have a4 := blk_cell HB2.out 4
 have b4 := blk_cell HB3.out 4
 have a5 := blk_cell HB2.out 5
 have b5 := blk_cell HB3.out 5
 have a6 := blk_cell HB2.out 6
 have b6 := blk_cell HB3.out 6
 have a7 := blk_cell HB2.out 7
 have b7 := blk_cell HB3.out 7
 clear hr0 hr1
 go_wp2_with fail
 refine (r05_Ints.calls A0 c0 x.f5 A1 c1 x.f5 true _ HR0.out hc0 HR1.out hc1 (ints_self x.f5 hlen)).mono ?_
 rintro e w1 ⟨rfl, hb⟩
 have HBB := Aside0.mk (below_step HB.out hb)
 clear hb
 go_wp2
 go_ret
 exact ⟨rfl, HBB.out⟩
def eqI (x y : S37) : Bool := decide (x.f0 = y.f0 ∧ x.f1 = y.f1 ∧ x.f2 = y.f2 ∧ x.f3 = y.f3 ∧ x.f4 = y.f4 ∧ x.f5 = y.f5 ∧ x.f6.f0 = y.f6.f0 ∧ x.f6.f1 = y.f6.f1 ∧ x.f5.length ≤ 140737488355328)
def eqIs : List S37 → List S37 → Bool
 | [], [] => true
 | x :: xs, y :: ys => eqI x y && eqIs xs ys
 | _, _ => false
def eqB (f g : S33) : Bool := decide (f.f0 = g.f0 ∧ f.f1 = g.f1 ∧ f.f0.length ≤ 140737488355328 ∧ f.f2.length ≤ 140737488355328) && eqIs f.f2 g.f2
def eqBs : List S33 → List S33 → Bool
 | [], [] => true
 | x :: xs, y :: ys => eqB x y && eqBs xs ys
 | _, _ => false
theorem eqI_eq {x y : S37} (h : eqI x y = true) : x = y ∧ x.f5.length ≤ 140737488355328 := by
 obtain ⟨a, b, c, d, e, f, g, i, j⟩ := of_decide_eq_true h
 obtain ⟨x0, x1, x2, x3, x4, x5, ⟨x6, x7⟩⟩ := x
 obtain ⟨y0, y1, y2, y3, y4, y5, ⟨y6, y7⟩⟩ := y
 simp only at a b c d e f g i j
 subst a; subst b; subst c; subst d; subst e; subst f; subst g; subst i
 exact ⟨rfl, j⟩
theorem eqIs_eq : ∀ {xs ys : List S37}, eqIs xs ys = true → xs = ys ∧ ∀ x ∈ xs, x.f5.length ≤ 140737488355328
 | [], [], _ => ⟨rfl, fun x h => by cases h⟩
 | x :: xs, y :: ys, h => by
  unfold eqIs at h
  rw [Bool.and_eq_true] at h
  obtain ⟨rfl, h1⟩ := eqI_eq h.1
  obtain ⟨rfl, h2⟩ := eqIs_eq h.2
  exact ⟨rfl, fun z hz => by
   rcases List.mem_cons.mp hz with rfl | hz
   ·exact h1
   ·exact h2 z hz⟩
theorem eqB_eq {f g : S33} (h : eqB f g = true) : f = g ∧ f.f0.length ≤ 140737488355328 ∧ f.f2.length ≤ 140737488355328 ∧ ∀ x ∈ f.f2, x.f5.length ≤ 140737488355328 := by
 unfold eqB at h
 rw [Bool.and_eq_true] at h
 obtain ⟨a, b, c, d⟩ := of_decide_eq_true h.1
 obtain ⟨e, e2⟩ := eqIs_eq h.2
 obtain ⟨f0, f1, f2⟩ := f
 obtain ⟨g0, g1, g2⟩ := g
 simp only at a b c d e
 subst a; subst b; subst e
 exact ⟨rfl, c, d, e2⟩
theorem eqBs_eq : ∀ {xs ys : List S33}, eqBs xs ys = true → xs = ys ∧ ∀ f ∈ xs, f.f0.length ≤ 140737488355328 ∧ f.f2.length ≤ 140737488355328 ∧ ∀ x ∈ f.f2, x.f5.length ≤ 140737488355328
 | [], [], _ => ⟨rfl, fun x h => by cases h⟩
 | x :: xs, y :: ys, h => by
  unfold eqBs at h
  rw [Bool.and_eq_true] at h
  obtain ⟨rfl, h1⟩ := eqB_eq h.1
  obtain ⟨rfl, h2⟩ := eqBs_eq h.2
  exact ⟨rfl, fun z hz => by
   rcases List.mem_cons.mp hz with rfl | hz
   ·exact h1
   ·exact h2 z hz⟩
theorem eqIs_self : ∀ xs : List S37, (∀ x ∈ xs, x.f5.length ≤ 140737488355328) → eqIs xs xs = true
 | [], _ => rfl
 | x :: xs, h => by
  unfold eqIs
  rw [eqIs_self xs (fun y hy => h y (by simp [hy])), Bool.and_true]
  exact decide_eq_true ⟨rfl, rfl, rfl, rfl, rfl, rfl, rfl, rfl, h x (by simp)⟩
theorem eqBs_self : ∀ xs : List S33, (∀ f ∈ xs, f.f0.length ≤ 140737488355328 ∧ f.f2.length ≤ 140737488355328 ∧ ∀ x ∈ f.f2, x.f5.length ≤ 140737488355328) → eqBs xs xs = true
 | [], _ => rfl
 | x :: xs, h => by
  unfold eqBs eqB
  rw [eqBs_self xs (fun y hy => h y (by simp [hy])), Bool.and_true, eqIs_self _ (h x (by simp)).2.2, Bool.and_true]
  exact decide_eq_true ⟨rfl, rfl, (h x (by simp)).1, (h x (by simp)).2.1⟩
def r32_Same.f (l m : List S33) : Option Bool := if eqBs l m = true ∧ l.length ≤ 140737488355328 then some true else none
theorem same_at {l : List S33} (h : ∀ f ∈ l, f.f0.length ≤ 140737488355328 ∧ f.f2.length ≤ 140737488355328 ∧ ∀ x ∈ f.f2, x.f5.length ≤ 140737488355328) (x y : Int) (h0 : 0 ≤ x) (h1 : x < (l.length : Int)) : (rd_T33 l x).f0.length ≤ 140737488355328 ∧ (rd_T33 l x).f2.length ≤ 140737488355328 ∧ (0 ≤ y → y < ((rd_T33 l x).f2.length : Int) → (rd_T37 (rd_T33 l x).f2 y).f5.length ≤ 140737488355328) := by
 obtain ⟨n, rfl⟩ := Int.eq_ofNat_of_zero_le h0
 have hn : n < l.length := by omega
 have e2 : rd_T33 l (n : Int) = l[n] := by unfold rd_T33; rw [Int.toNat_natCast, List.getD_eq_getElem?_getD, List.getElem?_eq_getElem hn]; rfl
 have h3 := h _ (List.getElem_mem hn)
 rw [← e2] at h3
 refine ⟨h3.1, h3.2.1, fun h4 h5 => ?_⟩
 obtain ⟨m, rfl⟩ := Int.eq_ofNat_of_zero_le h4
 generalize rd_T33 l (n : Int) = f at *
 have hm : m < f.f2.length := by omega
 have e3 : rd_T37 f.f2 (m : Int) = f.f2[m] := by unfold rd_T37; rw [Int.toNat_natCast, List.getD_eq_getElem?_getD, List.getElem?_eq_getElem hm]; rfl
 rw [e3]
 exact h3.2.2 _ (List.getElem_mem hm)
set_option maxHeartbeats 8000000 in
set_option maxRecDepth 100000 in
theorem r32_Same.calls (A0 : Option Addr) (c0 : Nat) (l : List S33) (A1 : Option Addr) (c1 : Nat) (m : List S33) (r : Bool) (w : World) (hr0 : Kd.C k33 w A0 l.length l) (hc0 : l.length ≤ c0) (hr1 : Kd.C k33 w A1 m.length m) (hc1 : m.length ≤ c1) (h : r32_Same.f l m = some r) :
  Calls Try.prog 18 #[.slice A0 l.length c0, .slice A1 m.length c1] w fun e w' => e = .returned (.bool r) ∧ Below w.heap.size w w' := by
 have hu33 := Try.underlying33
 have hu37 := Try.underlying37
 unfold r32_Same.f at h
 by_cases hg : eqBs l m = true ∧ l.length ≤ 140737488355328
 rotate_left
 ·rw [if_neg hg] at h
  cases h
 rw [if_pos hg] at h
 obtain rfl := Option.some.inj h
 obtain ⟨hgg, hlen⟩ := hg
 obtain ⟨rfl, hfit⟩ := eqBs_eq hgg
 have HR0 := Aside0.mk hr0
 have HR1 := Aside0.mk hr1
 have HLN := Aside0.mk hlen
 have HF := Aside0.mk hfit
 clear hr0 hr1 hlen h hgg hfit
 go_enter Try.func18, Try.ntmps18
 go_wp2
 (try simp only [Act.put, List.setIfInBounds_toArray, List.set_cons_zero, List.set_cons_succ])
 go_loopg [5] l.length (fun kq v5 w' => ∃ x : Int, v5 = .int .i64 x ∧ Aside0 (0 ≤ x ∧ x ≤ (l.length : Int)) ∧ Aside0 (Below w.heap.size w w') ∧ Aside0 (kq = l.length - x.toNat))
 case atStart => exact ⟨0, rfl, ⟨by omega⟩, ⟨Below.refl _ _⟩, ⟨rfl⟩⟩
 case round =>
  obtain ⟨x, rfl, HI, HB, HQ⟩ := hrel
  by_cases hi : x < (l.length : Int)
  ·have p1 : (0 ≤ x) = True := eq_true HI.out.1
   have q1 : (x < (l.length : Int)) = True := eq_true hi
   have d1_ : decide (x < (l.length : Int)) = true := decide_eq_true hi
   have HXI := Aside0.mk (show x + 1 ≤ (l.length : Int) by omega)
   have HFA := Aside0.mk (fun y => same_at HF.out x y HI.out.1 hi)
   obtain ⟨ad, B0, d0, B2, d2, e1, x0, x1, x2, l0, g0, l2, g2⟩ := at_T33 HR0.out x HI.out.1 hi
   obtain ⟨ad', B0', d0', B2', d2', e1', x0', x1', x2', l0', g0', l2', g2'⟩ := at_T33 HR1.out x HI.out.1 hi
   subst e1
   subst e1'
   have HXX := Aside0.mk (And.intro x2 x2')
   have HG := Aside0.mk (And.intro g2 g2')
   have HG0 := Aside0.mk (And.intro g0 g0')
   have HL0 := Aside0.mk (And.intro l0 l0')
   replace x0 := (HB.out.cell (World.block_lt_of_cell? w _ x0)).trans x0
   replace x1 := (HB.out.cell (World.block_lt_of_cell? w _ x1)).trans x1
   replace x2 := (HB.out.cell (World.block_lt_of_cell? w _ x2)).trans x2
   replace x0' := (HB.out.cell (World.block_lt_of_cell? w _ x0')).trans x0'
   replace x1' := (HB.out.cell (World.block_lt_of_cell? w _ x1')).trans x1'
   replace x2' := (HB.out.cell (World.block_lt_of_cell? w _ x2')).trans x2'
   clear hi l0 g0 l2 g2 l0' g0' l2' g2'
   generalize rd_T33 l x = f at *
   go_upto_region 6 with (fail)
   have HB1 := Aside0.mk (below_drew1 HB.out)
   refine start_ (n := 40) (S := fun w' => w'.cell? (ad.add (x.toNat * 3)) = some (.slice B0 f.f0.length d0) ∧ w'.cell? ⟨(ad.add (x.toNat * 3)).block, (ad.add (x.toNat * 3)).off + 1, none⟩ = some (.int .i64 f.f1) ∧ w'.cell? ⟨(ad.add (x.toNat * 3)).block, (ad.add (x.toNat * 3)).off + 2, none⟩ = some (.slice B2 f.f2.length d2) ∧ w'.cell? (ad'.add (x.toNat * 3)) = some (.slice B0' f.f0.length d0') ∧ w'.cell? ⟨(ad'.add (x.toNat * 3)).block, (ad'.add (x.toNat * 3)).off + 1, none⟩ = some (.int .i64 f.f1) ∧ w'.cell? ⟨(ad'.add (x.toNat * 3)).block, (ad'.add (x.toNat * 3)).off + 2, none⟩ = some (.slice B2' f.f2.length d2')) (ds := []) #[false, false, false, false, false, false, false, false, false, false, false, false, false, false, false, false, false, false, false, false, false, false, false, false, false, false, false, false, false, false, false, false, false, false, false, false, false, false, false, false] (by kernel_rfl) rfl rfl ⟨x0, x1, x2, x0', x1', x2'⟩ (fun hHeld => ?_)
   refine pure_ (i := 0) (N := some 18) (v := ?_) (a' := ?_) #[true, false, false, false, false, false, false, false, false, false, false, false, false, false, false, false, false, false, false, false, false, false, false, false, false, false, false, false, false, false, false, false, false, false, false, false, false, false, false, false] rfl rfl (by kernel_rfl) (fun _ _ _ h => h) (Or.inl ⟨by rfl, ?_⟩) ?_ ?_
   rotate_left
   ·intro w'
    go_simp
    with_reducible rfl
   rotate_left
   ·simp only [Act.put, List.setIfInBounds_toArray, List.set_cons_zero, List.set_cons_succ, i64_w, i32_w]
    rfl
   refine pure_ (i := 1) (N := some 19) (v := ?_) (a' := ?_) #[true, true, false, false, false, false, false, false, false, false, false, false, false, false, false, false, false, false, false, false, false, false, false, false, false, false, false, false, false, false, false, false, false, false, false, false, false, false, false, false] rfl rfl (by kernel_rfl) (fun _ _ _ h => h) (Or.inl ⟨by rfl, ?_⟩) ?_ ?_
   rotate_left
   ·intro w'
    go_simp
    with_reducible rfl
   rotate_left
   ·simp only [Act.put, List.setIfInBounds_toArray, List.set_cons_zero, List.set_cons_succ, i64_w, i32_w]
    rfl
   refine pure_ (i := 2) (N := some 20) (v := ?_) (a' := ?_) #[true, true, true, false, false, false, false, false, false, false, false, false, false, false, false, false, false, false, false, false, false, false, false, false, false, false, false, false, false, false, false, false, false, false, false, false, false, false, false, false] rfl rfl (by kernel_rfl) (fun _ _ _ h => h) (Or.inl ⟨by rfl, ?_⟩) ?_ ?_
   rotate_left
   ·intro w'
    go_simp
    with_reducible rfl
   rotate_left
   ·simp only [Act.put, List.setIfInBounds_toArray, List.set_cons_zero, List.set_cons_succ, i64_w, i32_w]
    rfl
   refine pure_ (i := 3) (N := some 21) (v := ?_) (a' := ?_) #[true, true, true, true, false, false, false, false, false, false, false, false, false, false, false, false, false, false, false, false, false, false, false, false, false, false, false, false, false, false, false, false, false, false, false, false, false, false, false, false] rfl rfl (by kernel_rfl) (fun _ _ _ h => h) (Or.inl ⟨by rfl, ?_⟩) ?_ ?_
   rotate_left
   ·intro w'
    go_simp
    with_reducible rfl
   rotate_left
   ·simp only [Act.put, List.setIfInBounds_toArray, List.set_cons_zero, List.set_cons_succ, i64_w, i32_w]
    rfl
   refine pure_ (i := 5) (N := some 23) (v := ?_) (a' := ?_) #[true, true, true, true, false, true, false, false, false, false, false, false, false, false, false, false, false, false, false, false, false, false, false, false, false, false, false, false, false, false, false, false, false, false, false, false, false, false, false, false] rfl rfl (by kernel_rfl) (fun _ _ _ h => h) (Or.inl ⟨by rfl, ?_⟩) ?_ ?_
   rotate_left
   ·intro w'
    go_simp
    with_reducible rfl
   rotate_left
   ·simp only [Act.put, List.setIfInBounds_toArray, List.set_cons_zero, List.set_cons_succ, i64_w, i32_w]
    rfl
   refine pure_ (i := 6) (N := some 24) (v := ?_) (a' := ?_) #[true, true, true, true, false, true, true, false, false, false, false, false, false, false, false, false, false, false, false, false, false, false, false, false, false, false, false, false, false, false, false, false, false, false, false, false, false, false, false, false] rfl rfl (by kernel_rfl) (fun _ _ _ h => h) (Or.inl ⟨by rfl, ?_⟩) ?_ ?_
   rotate_left
   ·intro w'
    go_simp
    with_reducible rfl
   rotate_left
   ·simp only [Act.put, List.setIfInBounds_toArray, List.set_cons_zero, List.set_cons_succ, i64_w, i32_w]
    rfl
   refine pure_ (i := 7) (N := some 25) (v := ?_) (a' := ?_) #[true, true, true, true, false, true, true, true, false, false, false, false, false, false, false, false, false, false, false, false, false, false, false, false, false, false, false, false, false, false, false, false, false, false, false, false, false, false, false, false] rfl rfl (by kernel_rfl) (fun _ _ _ h => h) (Or.inl ⟨by rfl, ?_⟩) ?_ ?_
   rotate_left
   ·intro w'
    go_simp
    with_reducible rfl
   rotate_left
   ·simp only [Act.put, List.setIfInBounds_toArray, List.set_cons_zero, List.set_cons_succ, i64_w, i32_w]
    rfl
   refine pure_ (i := 8) (N := some 26) (v := ?_) (a' := ?_) #[true, true, true, true, false, true, true, true, true, false, false, false, false, false, false, false, false, false, false, false, false, false, false, false, false, false, false, false, false, false, false, false, false, false, false, false, false, false, false, false] rfl rfl (by kernel_rfl) (fun _ _ _ h => h) (Or.inl ⟨by rfl, ?_⟩) ?_ ?_
   rotate_left
   ·intro w'
    go_simp
    with_reducible rfl
   rotate_left
   ·simp only [Act.put, List.setIfInBounds_toArray, List.set_cons_zero, List.set_cons_succ, i64_w, i32_w]
    rfl
   refine take_ (i := 4) (N := some 22) (v := ?_) (a' := ?_) #[true, true, true, true, true, true, true, true, true, false, false, false, false, false, false, false, false, false, false, false, false, false, false, false, false, false, false, false, false, false, false, false, false, false, false, false, false, false, false, false] rfl rfl (by kernel_rfl) (fun _ _ _ h => h) (Or.inl ⟨by rfl, ?_⟩) hHeld ?_ ?_
   rotate_left
   ·rintro w' ⟨s0, s1, s2, s3, s4, s5⟩
    go_simp
    with_reducible rfl
   rotate_left
   ·simp only [Act.put, List.setIfInBounds_toArray, List.set_cons_zero, List.set_cons_succ, i64_w, i32_w]
    rfl
   refine take_ (i := 9) (N := some 27) (v := ?_) (a' := ?_) #[true, true, true, true, true, true, true, true, true, true, false, false, false, false, false, false, false, false, false, false, false, false, false, false, false, false, false, false, false, false, false, false, false, false, false, false, false, false, false, false] rfl rfl (by kernel_rfl) (fun _ _ _ h => h) (Or.inl ⟨by rfl, ?_⟩) hHeld ?_ ?_
   rotate_left
   ·rintro w' ⟨s0, s1, s2, s3, s4, s5⟩
    go_simp
    with_reducible rfl
   rotate_left
   ·simp only [Act.put, List.setIfInBounds_toArray, List.set_cons_zero, List.set_cons_succ, i64_w, i32_w]
    rfl
   refine pure_ (i := 10) (N := some 28) (v := ?_) (a' := ?_) #[true, true, true, true, true, true, true, true, true, true, true, false, false, false, false, false, false, false, false, false, false, false, false, false, false, false, false, false, false, false, false, false, false, false, false, false, false, false, false, false] rfl rfl (by kernel_rfl) (fun _ _ _ h => h) (Or.inl ⟨by rfl, ?_⟩) ?_ ?_
   rotate_left
   ·intro w'
    go_simp
    with_reducible rfl
   rotate_left
   ·simp only [Act.put, List.setIfInBounds_toArray, List.set_cons_zero, List.set_cons_succ, i64_w, i32_w]
    rfl
   refine pure_ (i := 11) (N := some 29) (v := ?_) (a' := ?_) #[true, true, true, true, true, true, true, true, true, true, true, true, false, false, false, false, false, false, false, false, false, false, false, false, false, false, false, false, false, false, false, false, false, false, false, false, false, false, false, false] rfl rfl (by kernel_rfl) (fun _ _ _ h => h) (Or.inl ⟨by rfl, ?_⟩) ?_ ?_
   rotate_left
   ·intro w'
    go_simp
    with_reducible rfl
   rotate_left
   ·simp only [Act.put, List.setIfInBounds_toArray, List.set_cons_zero, List.set_cons_succ, i64_w, i32_w]
    rfl
   refine pure_ (i := 12) (N := some 30) (v := ?_) (a' := ?_) #[true, true, true, true, true, true, true, true, true, true, true, true, true, false, false, false, false, false, false, false, false, false, false, false, false, false, false, false, false, false, false, false, false, false, false, false, false, false, false, false] rfl rfl (by kernel_rfl) (fun _ _ _ h => h) (Or.inl ⟨by rfl, ?_⟩) ?_ ?_
   rotate_left
   ·intro w'
    go_simp
    with_reducible rfl
   rotate_left
   ·simp only [Act.put, List.setIfInBounds_toArray, List.set_cons_zero, List.set_cons_succ, i64_w, i32_w]
    rfl
   refine pure_ (i := 13) (N := some 31) (v := ?_) (a' := ?_) #[true, true, true, true, true, true, true, true, true, true, true, true, true, true, false, false, false, false, false, false, false, false, false, false, false, false, false, false, false, false, false, false, false, false, false, false, false, false, false, false] rfl rfl (by kernel_rfl) (fun _ _ _ h => h) (Or.inl ⟨by rfl, ?_⟩) ?_ ?_
   rotate_left
   ·intro w'
    go_simp
    with_reducible rfl
   rotate_left
   ·simp only [Act.put, List.setIfInBounds_toArray, List.set_cons_zero, List.set_cons_succ, i64_w, i32_w]
    rfl
   refine pure_ (i := 14) (N := some 32) (v := ?_) (a' := ?_) #[true, true, true, true, true, true, true, true, true, true, true, true, true, true, true, false, false, false, false, false, false, false, false, false, false, false, false, false, false, false, false, false, false, false, false, false, false, false, false, false] rfl rfl (by kernel_rfl) (fun _ _ _ h => h) (Or.inl ⟨by rfl, ?_⟩) ?_ ?_
   rotate_left
   ·intro w'
    go_simp
    with_reducible rfl
   rotate_left
   ·simp only [Act.put, List.setIfInBounds_toArray, List.set_cons_zero, List.set_cons_succ, i64_w, i32_w]
    rfl
   refine pure_ (i := 15) (N := some 33) (v := ?_) (a' := ?_) #[true, true, true, true, true, true, true, true, true, true, true, true, true, true, true, true, false, false, false, false, false, false, false, false, false, false, false, false, false, false, false, false, false, false, false, false, false, false, false, false] rfl rfl (by kernel_rfl) (fun _ _ _ h => h) (Or.inl ⟨by rfl, ?_⟩) ?_ ?_
   rotate_left
   ·intro w'
    go_simp
    with_reducible rfl
   rotate_left
   ·simp only [Act.put, List.setIfInBounds_toArray, List.set_cons_zero, List.set_cons_succ, i64_w, i32_w]
    rfl
   refine pure_ (i := 17) (N := some 35) (v := ?_) (a' := ?_) #[true, true, true, true, true, true, true, true, true, true, true, true, true, true, true, true, false, true, false, false, false, false, false, false, false, false, false, false, false, false, false, false, false, false, false, false, false, false, false, false] rfl rfl (by kernel_rfl) (fun _ _ _ h => h) (Or.inl ⟨by rfl, ?_⟩) ?_ ?_
   rotate_left
   ·intro w'
    go_simp
    with_reducible rfl
   rotate_left
   ·simp only [Act.put, List.setIfInBounds_toArray, List.set_cons_zero, List.set_cons_succ, i64_w, i32_w]
    rfl
   refine pure_ (i := 18) (N := some 36) (v := ?_) (a' := ?_) #[true, true, true, true, true, true, true, true, true, true, true, true, true, true, true, true, false, true, true, false, false, false, false, false, false, false, false, false, false, false, false, false, false, false, false, false, false, false, false, false] rfl rfl (by kernel_rfl) (fun _ _ _ h => h) (Or.inl ⟨by rfl, ?_⟩) ?_ ?_
   rotate_left
   ·intro w'
    go_simp
    with_reducible rfl
   rotate_left
   ·simp only [Act.put, List.setIfInBounds_toArray, List.set_cons_zero, List.set_cons_succ, i64_w, i32_w]
    rfl
   refine pure_ (i := 19) (N := some 37) (v := ?_) (a' := ?_) #[true, true, true, true, true, true, true, true, true, true, true, true, true, true, true, true, false, true, true, true, false, false, false, false, false, false, false, false, false, false, false, false, false, false, false, false, false, false, false, false] rfl rfl (by kernel_rfl) (fun _ _ _ h => h) (Or.inl ⟨by rfl, ?_⟩) ?_ ?_
   rotate_left
   ·intro w'
    go_simp
    with_reducible rfl
   rotate_left
   ·simp only [Act.put, List.setIfInBounds_toArray, List.set_cons_zero, List.set_cons_succ, i64_w, i32_w]
    rfl
   refine pure_ (i := 20) (N := some 38) (v := ?_) (a' := ?_) #[true, true, true, true, true, true, true, true, true, true, true, true, true, true, true, true, false, true, true, true, true, false, false, false, false, false, false, false, false, false, false, false, false, false, false, false, false, false, false, false] rfl rfl (by kernel_rfl) (fun _ _ _ h => h) (Or.inl ⟨by rfl, ?_⟩) ?_ ?_
   rotate_left
   ·intro w'
    go_simp
    with_reducible rfl
   rotate_left
   ·simp only [Act.put, List.setIfInBounds_toArray, List.set_cons_zero, List.set_cons_succ, i64_w, i32_w]
    rfl
   refine take_ (i := 16) (N := some 34) (v := ?_) (a' := ?_) #[true, true, true, true, true, true, true, true, true, true, true, true, true, true, true, true, true, true, true, true, true, false, false, false, false, false, false, false, false, false, false, false, false, false, false, false, false, false, false, false] rfl rfl (by kernel_rfl) (fun _ _ _ h => h) (Or.inl ⟨by rfl, ?_⟩) hHeld ?_ ?_
   rotate_left
   ·rintro w' ⟨s0, s1, s2, s3, s4, s5⟩
    go_simp
    with_reducible rfl
   rotate_left
   ·simp only [Act.put, List.setIfInBounds_toArray, List.set_cons_zero, List.set_cons_succ, i64_w, i32_w]
    rfl
   refine take_ (i := 21) (N := some 39) (v := ?_) (a' := ?_) #[true, true, true, true, true, true, true, true, true, true, true, true, true, true, true, true, true, true, true, true, true, true, false, false, false, false, false, false, false, false, false, false, false, false, false, false, false, false, false, false] rfl rfl (by kernel_rfl) (fun _ _ _ h => h) (Or.inl ⟨by rfl, ?_⟩) hHeld ?_ ?_
   rotate_left
   ·rintro w' ⟨s0, s1, s2, s3, s4, s5⟩
    go_simp
    with_reducible rfl
   rotate_left
   ·simp only [Act.put, List.setIfInBounds_toArray, List.set_cons_zero, List.set_cons_succ, i64_w, i32_w]
    rfl
   refine one_ (i := 22) (N := some 40) #[true, true, true, true, true, true, true, true, true, true, true, true, true, true, true, true, true, true, true, true, true, true, true, false, false, false, false, false, false, false, false, false, false, false, false, false, false, false, false, false] rfl rfl (by kernel_rfl) (by decide) (fun K hK => ?_)
   refine goes_ Try.func41 (by kernel_rfl) rfl #[.slice B0 f.f0.length d0, .slice B0' f.f0.length d0'] (by rfl) rfl rfl (by simp only [List.map_toArray, List.map_cons, List.map_nil]; rfl) ?_
   with_reducible refine (r05_Ints.calls B0 d0 f.f0 B0' d0' f.f0 true _ (Kd.C_below HG0.out.1 HB1.out) HL0.out.1 (Kd.C_below HG0.out.2 HB1.out) HL0.out.2 (ints_self f.f0 (HFA.out 0).1)).mono ?_
   rintro e w3 ⟨rfl, hb3⟩
   refine ⟨_, rfl, ?_⟩
   have HB3 := Aside0.mk (below_step HB1.out hb3)
   have u0 := blk_cellB (w := wr.drew) x0 hb3
   have u1 := blk_cellB (w := wr.drew) x1 hb3
   have u2 := blk_cellB (w := wr.drew) x2 hb3
   have u3 := blk_cellB (w := wr.drew) x0' hb3
   have u4 := blk_cellB (w := wr.drew) x1' hb3
   have u5 := blk_cellB (w := wr.drew) x2' hb3
   clear hb3
   refine hK.out _ _ ⟨u0, u1, u2, u3, u4, u5⟩ (fun hHeld => ?_)
   clear hK K
   refine norm_ (a' := ?_) ?_ ?_
   rotate_left
   ·show Act.put _ (some 40) _ = _
    simp only [Act.put, List.setIfInBounds_toArray, List.set_cons_zero, List.set_cons_succ, i64_w, i32_w]
    rfl
   refine pure_ (i := 23) (N := some 41) (v := ?_) (a' := ?_) #[true, true, true, true, true, true, true, true, true, true, true, true, true, true, true, true, true, true, true, true, true, true, true, true, false, false, false, false, false, false, false, false, false, false, false, false, false, false, false, false] rfl rfl (by kernel_rfl) (fun _ _ _ h => h) (Or.inl ⟨by rfl, ?_⟩) ?_ ?_
   rotate_left
   ·intro w'
    go_simp
    with_reducible rfl
   rotate_left
   ·simp only [Act.put, List.setIfInBounds_toArray, List.set_cons_zero, List.set_cons_succ, i64_w, i32_w]
    rfl
   refine pure_ (i := 24) (N := some 42) (v := ?_) (a' := ?_) #[true, true, true, true, true, true, true, true, true, true, true, true, true, true, true, true, true, true, true, true, true, true, true, true, true, false, false, false, false, false, false, false, false, false, false, false, false, false, false, false] rfl rfl (by kernel_rfl) (fun _ _ _ h => h) (Or.inl ⟨by rfl, ?_⟩) ?_ ?_
   rotate_left
   ·intro w'
    go_simp
    with_reducible rfl
   rotate_left
   ·simp only [Act.put, List.setIfInBounds_toArray, List.set_cons_zero, List.set_cons_succ, i64_w, i32_w]
    rfl
   refine pure_ (i := 25) (N := some 43) (v := ?_) (a' := ?_) #[true, true, true, true, true, true, true, true, true, true, true, true, true, true, true, true, true, true, true, true, true, true, true, true, true, true, false, false, false, false, false, false, false, false, false, false, false, false, false, false] rfl rfl (by kernel_rfl) (fun _ _ _ h => h) (Or.inl ⟨by rfl, ?_⟩) ?_ ?_
   rotate_left
   ·intro w'
    go_simp
    with_reducible rfl
   rotate_left
   ·simp only [Act.put, List.setIfInBounds_toArray, List.set_cons_zero, List.set_cons_succ, i64_w, i32_w]
    rfl
   refine pure_ (i := 26) (N := some 44) (v := ?_) (a' := ?_) #[true, true, true, true, true, true, true, true, true, true, true, true, true, true, true, true, true, true, true, true, true, true, true, true, true, true, true, false, false, false, false, false, false, false, false, false, false, false, false, false] rfl rfl (by kernel_rfl) (fun _ _ _ h => h) (Or.inl ⟨by rfl, ?_⟩) ?_ ?_
   rotate_left
   ·intro w'
    go_simp
    with_reducible rfl
   rotate_left
   ·simp only [Act.put, List.setIfInBounds_toArray, List.set_cons_zero, List.set_cons_succ, i64_w, i32_w]
    rfl
   refine pure_ (i := 27) (N := some 45) (v := ?_) (a' := ?_) #[true, true, true, true, true, true, true, true, true, true, true, true, true, true, true, true, true, true, true, true, true, true, true, true, true, true, true, true, false, false, false, false, false, false, false, false, false, false, false, false] rfl rfl (by kernel_rfl) (fun _ _ _ h => h) (Or.inl ⟨by rfl, ?_⟩) ?_ ?_
   rotate_left
   ·intro w'
    go_simp
    with_reducible rfl
   rotate_left
   ·simp only [Act.put, List.setIfInBounds_toArray, List.set_cons_zero, List.set_cons_succ, i64_w, i32_w]
    rfl
   refine pure_ (i := 28) (N := some 46) (v := ?_) (a' := ?_) #[true, true, true, true, true, true, true, true, true, true, true, true, true, true, true, true, true, true, true, true, true, true, true, true, true, true, true, true, true, false, false, false, false, false, false, false, false, false, false, false] rfl rfl (by kernel_rfl) (fun _ _ _ h => h) (Or.inl ⟨by rfl, ?_⟩) ?_ ?_
   rotate_left
   ·intro w'
    go_simp
    with_reducible rfl
   rotate_left
   ·simp only [Act.put, List.setIfInBounds_toArray, List.set_cons_zero, List.set_cons_succ, i64_w, i32_w]
    rfl
   refine pure_ (i := 29) (N := some 47) (v := ?_) (a' := ?_) #[true, true, true, true, true, true, true, true, true, true, true, true, true, true, true, true, true, true, true, true, true, true, true, true, true, true, true, true, true, true, false, false, false, false, false, false, false, false, false, false] rfl rfl (by kernel_rfl) (fun _ _ _ h => h) (Or.inl ⟨by rfl, ?_⟩) ?_ ?_
   rotate_left
   ·intro w'
    go_simp
    with_reducible rfl
   rotate_left
   ·simp only [Act.put, List.setIfInBounds_toArray, List.set_cons_zero, List.set_cons_succ, i64_w, i32_w]
    rfl
   refine pure_ (i := 32) (N := some 50) (v := ?_) (a' := ?_) #[true, true, true, true, true, true, true, true, true, true, true, true, true, true, true, true, true, true, true, true, true, true, true, true, true, true, true, true, true, true, false, false, true, false, false, false, false, false, false, false] rfl rfl (by kernel_rfl) (fun _ _ _ h => h) (Or.inl ⟨by rfl, ?_⟩) ?_ ?_
   rotate_left
   ·intro w'
    go_simp
    with_reducible rfl
   rotate_left
   ·simp only [Act.put, List.setIfInBounds_toArray, List.set_cons_zero, List.set_cons_succ, i64_w, i32_w]
    rfl
   refine pure_ (i := 33) (N := some 51) (v := ?_) (a' := ?_) #[true, true, true, true, true, true, true, true, true, true, true, true, true, true, true, true, true, true, true, true, true, true, true, true, true, true, true, true, true, true, false, false, true, true, false, false, false, false, false, false] rfl rfl (by kernel_rfl) (fun _ _ _ h => h) (Or.inl ⟨by rfl, ?_⟩) ?_ ?_
   rotate_left
   ·intro w'
    go_simp
    with_reducible rfl
   rotate_left
   ·simp only [Act.put, List.setIfInBounds_toArray, List.set_cons_zero, List.set_cons_succ, i64_w, i32_w]
    rfl
   refine pure_ (i := 34) (N := some 52) (v := ?_) (a' := ?_) #[true, true, true, true, true, true, true, true, true, true, true, true, true, true, true, true, true, true, true, true, true, true, true, true, true, true, true, true, true, true, false, false, true, true, true, false, false, false, false, false] rfl rfl (by kernel_rfl) (fun _ _ _ h => h) (Or.inl ⟨by rfl, ?_⟩) ?_ ?_
   rotate_left
   ·intro w'
    go_simp
    with_reducible rfl
   rotate_left
   ·simp only [Act.put, List.setIfInBounds_toArray, List.set_cons_zero, List.set_cons_succ, i64_w, i32_w]
    rfl
   refine pure_ (i := 35) (N := some 53) (v := ?_) (a' := ?_) #[true, true, true, true, true, true, true, true, true, true, true, true, true, true, true, true, true, true, true, true, true, true, true, true, true, true, true, true, true, true, false, false, true, true, true, true, false, false, false, false] rfl rfl (by kernel_rfl) (fun _ _ _ h => h) (Or.inl ⟨by rfl, ?_⟩) ?_ ?_
   rotate_left
   ·intro w'
    go_simp
    with_reducible rfl
   rotate_left
   ·simp only [Act.put, List.setIfInBounds_toArray, List.set_cons_zero, List.set_cons_succ, i64_w, i32_w]
    rfl
   refine take_ (i := 30) (N := some 48) (v := ?_) (a' := ?_) #[true, true, true, true, true, true, true, true, true, true, true, true, true, true, true, true, true, true, true, true, true, true, true, true, true, true, true, true, true, true, true, false, true, true, true, true, false, false, false, false] rfl rfl (by kernel_rfl) (fun _ _ _ h => h) (Or.inl ⟨by rfl, ?_⟩) hHeld ?_ ?_
   rotate_left
   ·rintro w' ⟨s0, s1, s2, s3, s4, s5⟩
    go_simp
    with_reducible rfl
   rotate_left
   ·simp only [Act.put, List.setIfInBounds_toArray, List.set_cons_zero, List.set_cons_succ, i64_w, i32_w]
    rfl
   refine pure_ (i := 31) (N := some 49) (v := ?_) (a' := ?_) #[true, true, true, true, true, true, true, true, true, true, true, true, true, true, true, true, true, true, true, true, true, true, true, true, true, true, true, true, true, true, true, true, true, true, true, true, false, false, false, false] rfl rfl (by kernel_rfl) (fun _ _ _ h => h) (Or.inl ⟨by rfl, ?_⟩) ?_ ?_
   rotate_left
   ·intro w'
    go_simp
    with_reducible rfl
   rotate_left
   ·simp only [Act.put, List.setIfInBounds_toArray, List.set_cons_zero, List.set_cons_succ, i64_w, i32_w]
    rfl
   refine take_ (i := 36) (N := some 54) (v := ?_) (a' := ?_) #[true, true, true, true, true, true, true, true, true, true, true, true, true, true, true, true, true, true, true, true, true, true, true, true, true, true, true, true, true, true, true, true, true, true, true, true, true, false, false, false] rfl rfl (by kernel_rfl) (fun _ _ _ h => h) (Or.inl ⟨by rfl, ?_⟩) hHeld ?_ ?_
   rotate_left
   ·rintro w' ⟨s0, s1, s2, s3, s4, s5⟩
    go_simp
    with_reducible rfl
   rotate_left
   ·simp only [Act.put, List.setIfInBounds_toArray, List.set_cons_zero, List.set_cons_succ, i64_w, i32_w]
    rfl
   refine pure_ (i := 37) (N := some 55) (v := ?_) (a' := ?_) #[true, true, true, true, true, true, true, true, true, true, true, true, true, true, true, true, true, true, true, true, true, true, true, true, true, true, true, true, true, true, true, true, true, true, true, true, true, true, false, false] rfl rfl (by kernel_rfl) (fun _ _ _ h => h) (Or.inl ⟨by rfl, ?_⟩) ?_ ?_
   rotate_left
   ·intro w'
    go_simp
    with_reducible rfl
   rotate_left
   ·simp only [Act.put, List.setIfInBounds_toArray, List.set_cons_zero, List.set_cons_succ, i64_w, i32_w]
    rfl
   refine pure_ (i := 38) (N := some 56) (v := ?_) (a' := ?_) #[true, true, true, true, true, true, true, true, true, true, true, true, true, true, true, true, true, true, true, true, true, true, true, true, true, true, true, true, true, true, true, true, true, true, true, true, true, true, true, false] rfl rfl (by kernel_rfl) (fun _ _ _ h => h) (Or.inl ⟨by rfl, ?_⟩) ?_ ?_
   rotate_left
   ·intro w'
    go_simp
    with_reducible rfl
   rotate_left
   ·simp only [Act.put, List.setIfInBounds_toArray, List.set_cons_zero, List.set_cons_succ, i64_w, i32_w]
    rfl
   refine pure_ (i := 39) (N := some 57) (v := ?_) (a' := ?_) #[true, true, true, true, true, true, true, true, true, true, true, true, true, true, true, true, true, true, true, true, true, true, true, true, true, true, true, true, true, true, true, true, true, true, true, true, true, true, true, true] rfl rfl (by kernel_rfl) (fun _ _ _ h => h) (Or.inl ⟨by rfl, ?_⟩) ?_ ?_
   rotate_left
   ·intro w'
    go_simp
    with_reducible rfl
   rotate_left
   ·simp only [Act.put, List.setIfInBounds_toArray, List.set_cons_zero, List.set_cons_succ, i64_w, i32_w]
    rfl
   refine done_ (by kernel_rfl) ?_
   clear x0 x1 x2 x0' x1' x2'
   go_wp2
   (try simp only [Act.put, List.setIfInBounds_toArray, List.set_cons_zero, List.set_cons_succ])
   go_loopg [6] f.f2.length (fun kq v6 w' => ∃ y : Int, v6 = .int .i64 y ∧ Aside0 (0 ≤ y ∧ y ≤ (f.f2.length : Int)) ∧ Aside0 (Below w.heap.size w w') ∧ Aside0 (kq = f.f2.length - y.toNat))
   case atStart => exact ⟨0, rfl, ⟨by omega⟩, ⟨HB3.out⟩, ⟨rfl⟩⟩
   case round =>
    clear HB HB1 HB3 d1_
    try clear u0
    try clear u1
    try clear u2
    try clear u3
    try clear u4
    try clear u5
    obtain ⟨y, rfl, HJ, HBY, HR⟩ := hrel
    have x2 := (HBY.out.cell (World.block_lt_of_cell? w _ HXX.out.1)).trans HXX.out.1
    have x2' := (HBY.out.cell (World.block_lt_of_cell? w _ HXX.out.2)).trans HXX.out.2
    by_cases hj : y < (f.f2.length : Int)
    ·have p2 : (0 ≤ y) = True := eq_true HJ.out.1
     have q2 : (y < (f.f2.length : Int)) = True := eq_true hj
     have d2_ : decide (y < (f.f2.length : Int)) = true := decide_eq_true hj
     have HXJ := Aside0.mk (show y + 1 ≤ (f.f2.length : Int) by omega)
     have HAL := Aside0.mk ((HFA.out y).2.2 HJ.out.1 hj)
     obtain ⟨ad2, A3, c3, e2, z0, z1, z2, z3, z4, z5, z6, z7, l3, g3⟩ := at_T37 HG.out.1 y HJ.out.1 hj
     obtain ⟨ad2', A3', c3', e2', z0', z1', z2', z3', z4', z5', z6', z7', l3', g3'⟩ := at_T37 HG.out.2 y HJ.out.1 hj
     subst e2
     subst e2'
     have HL3 := Aside0.mk (And.intro l3 l3')
     have HG3 := Aside0.mk (And.intro g3 g3')
     replace z0 := (HBY.out.cell (World.block_lt_of_cell? w _ z0)).trans z0
     replace z1 := (HBY.out.cell (World.block_lt_of_cell? w _ z1)).trans z1
     replace z2 := (HBY.out.cell (World.block_lt_of_cell? w _ z2)).trans z2
     replace z3 := (HBY.out.cell (World.block_lt_of_cell? w _ z3)).trans z3
     replace z4 := (HBY.out.cell (World.block_lt_of_cell? w _ z4)).trans z4
     replace z5 := (HBY.out.cell (World.block_lt_of_cell? w _ z5)).trans z5
     replace z6 := (HBY.out.cell (World.block_lt_of_cell? w _ z6)).trans z6
     replace z7 := (HBY.out.cell (World.block_lt_of_cell? w _ z7)).trans z7
     replace z0' := (HBY.out.cell (World.block_lt_of_cell? w _ z0')).trans z0'
     replace z1' := (HBY.out.cell (World.block_lt_of_cell? w _ z1')).trans z1'
     replace z2' := (HBY.out.cell (World.block_lt_of_cell? w _ z2')).trans z2'
     replace z3' := (HBY.out.cell (World.block_lt_of_cell? w _ z3')).trans z3'
     replace z4' := (HBY.out.cell (World.block_lt_of_cell? w _ z4')).trans z4'
     replace z5' := (HBY.out.cell (World.block_lt_of_cell? w _ z5')).trans z5'
     replace z6' := (HBY.out.cell (World.block_lt_of_cell? w _ z6')).trans z6'
     replace z7' := (HBY.out.cell (World.block_lt_of_cell? w _ z7')).trans z7'
     clear hj l3 g3 l3' g3'
     generalize rd_T37 f.f2 y = u at *
     go_upto_region 11 with (fail)
     have HB5 := Aside0.mk (below_drew1 HBY.out)
     refine start_ (n := 18) (S := fun w' => w'.cell? ⟨(ad.add (x.toNat * 3)).block, (ad.add (x.toNat * 3)).off + 2, none⟩ = some (.slice (some ad2) f.f2.length d2) ∧ w'.cell? ⟨(ad'.add (x.toNat * 3)).block, (ad'.add (x.toNat * 3)).off + 2, none⟩ = some (.slice (some ad2') f.f2.length d2') ∧ w'.cell? (ad2.add (y.toNat * 8)) = some (.int .i64 u.f0) ∧ w'.cell? ⟨(ad2.add (y.toNat * 8)).block, (ad2.add (y.toNat * 8)).off + 1, none⟩ = some (.int .i64 u.f1) ∧ w'.cell? ⟨(ad2.add (y.toNat * 8)).block, (ad2.add (y.toNat * 8)).off + 2, none⟩ = some (.int .i64 u.f2) ∧ w'.cell? ⟨(ad2.add (y.toNat * 8)).block, (ad2.add (y.toNat * 8)).off + 3, none⟩ = some (.int .i64 u.f3) ∧ w'.cell? ⟨(ad2.add (y.toNat * 8)).block, (ad2.add (y.toNat * 8)).off + 4, none⟩ = some (.int .i64 u.f4) ∧ w'.cell? ⟨(ad2.add (y.toNat * 8)).block, (ad2.add (y.toNat * 8)).off + 5, none⟩ = some (.slice A3 u.f5.length c3) ∧ w'.cell? ⟨(ad2.add (y.toNat * 8)).block, (ad2.add (y.toNat * 8)).off + 6, none⟩ = some (.int .i64 u.f6.f0) ∧ w'.cell? ⟨(ad2.add (y.toNat * 8)).block, (ad2.add (y.toNat * 8)).off + 7, none⟩ = some (.int .i64 u.f6.f1) ∧ w'.cell? (ad2'.add (y.toNat * 8)) = some (.int .i64 u.f0) ∧ w'.cell? ⟨(ad2'.add (y.toNat * 8)).block, (ad2'.add (y.toNat * 8)).off + 1, none⟩ = some (.int .i64 u.f1) ∧ w'.cell? ⟨(ad2'.add (y.toNat * 8)).block, (ad2'.add (y.toNat * 8)).off + 2, none⟩ = some (.int .i64 u.f2) ∧ w'.cell? ⟨(ad2'.add (y.toNat * 8)).block, (ad2'.add (y.toNat * 8)).off + 3, none⟩ = some (.int .i64 u.f3) ∧ w'.cell? ⟨(ad2'.add (y.toNat * 8)).block, (ad2'.add (y.toNat * 8)).off + 4, none⟩ = some (.int .i64 u.f4) ∧ w'.cell? ⟨(ad2'.add (y.toNat * 8)).block, (ad2'.add (y.toNat * 8)).off + 5, none⟩ = some (.slice A3' u.f5.length c3') ∧ w'.cell? ⟨(ad2'.add (y.toNat * 8)).block, (ad2'.add (y.toNat * 8)).off + 6, none⟩ = some (.int .i64 u.f6.f0) ∧ w'.cell? ⟨(ad2'.add (y.toNat * 8)).block, (ad2'.add (y.toNat * 8)).off + 7, none⟩ = some (.int .i64 u.f6.f1)) (ds := []) #[false, false, false, false, false, false, false, false, false, false, false, false, false, false, false, false, false, false] (by kernel_rfl) rfl rfl ⟨x2, x2', z0, z1, z2, z3, z4, z5, z6, z7, z0', z1', z2', z3', z4', z5', z6', z7'⟩ (fun hHeld => ?_)
     refine pure_ (i := 0) (N := some 68) (v := ?_) (a' := ?_) #[true, false, false, false, false, false, false, false, false, false, false, false, false, false, false, false, false, false] rfl rfl (by kernel_rfl) (fun _ _ _ h => h) (Or.inl ⟨by rfl, ?_⟩) ?_ ?_
     rotate_left
     ·intro w'
      go_simp
      with_reducible rfl
     rotate_left
     ·simp only [Act.put, List.setIfInBounds_toArray, List.set_cons_zero, List.set_cons_succ, i64_w, i32_w]
      rfl
     refine pure_ (i := 1) (N := some 69) (v := ?_) (a' := ?_) #[true, true, false, false, false, false, false, false, false, false, false, false, false, false, false, false, false, false] rfl rfl (by kernel_rfl) (fun _ _ _ h => h) (Or.inl ⟨by rfl, ?_⟩) ?_ ?_
     rotate_left
     ·intro w'
      go_simp
      with_reducible rfl
     rotate_left
     ·simp only [Act.put, List.setIfInBounds_toArray, List.set_cons_zero, List.set_cons_succ, i64_w, i32_w]
      rfl
     refine pure_ (i := 2) (N := some 70) (v := ?_) (a' := ?_) #[true, true, true, false, false, false, false, false, false, false, false, false, false, false, false, false, false, false] rfl rfl (by kernel_rfl) (fun _ _ _ h => h) (Or.inl ⟨by rfl, ?_⟩) ?_ ?_
     rotate_left
     ·intro w'
      go_simp
      with_reducible rfl
     rotate_left
     ·simp only [Act.put, List.setIfInBounds_toArray, List.set_cons_zero, List.set_cons_succ, i64_w, i32_w]
      rfl
     refine pure_ (i := 3) (N := some 71) (v := ?_) (a' := ?_) #[true, true, true, true, false, false, false, false, false, false, false, false, false, false, false, false, false, false] rfl rfl (by kernel_rfl) (fun _ _ _ h => h) (Or.inl ⟨by rfl, ?_⟩) ?_ ?_
     rotate_left
     ·intro w'
      go_simp
      with_reducible rfl
     rotate_left
     ·simp only [Act.put, List.setIfInBounds_toArray, List.set_cons_zero, List.set_cons_succ, i64_w, i32_w]
      rfl
     refine pure_ (i := 5) (N := some 73) (v := ?_) (a' := ?_) #[true, true, true, true, false, true, false, false, false, false, false, false, false, false, false, false, false, false] rfl rfl (by kernel_rfl) (fun _ _ _ h => h) (Or.inl ⟨by rfl, ?_⟩) ?_ ?_
     rotate_left
     ·intro w'
      go_simp
      with_reducible rfl
     rotate_left
     ·simp only [Act.put, List.setIfInBounds_toArray, List.set_cons_zero, List.set_cons_succ, i64_w, i32_w]
      rfl
     refine pure_ (i := 8) (N := some 76) (v := ?_) (a' := ?_) #[true, true, true, true, false, true, false, false, true, false, false, false, false, false, false, false, false, false] rfl rfl (by kernel_rfl) (fun _ _ _ h => h) (Or.inl ⟨by rfl, ?_⟩) ?_ ?_
     rotate_left
     ·intro w'
      go_simp
      with_reducible rfl
     rotate_left
     ·simp only [Act.put, List.setIfInBounds_toArray, List.set_cons_zero, List.set_cons_succ, i64_w, i32_w]
      rfl
     refine pure_ (i := 9) (N := some 77) (v := ?_) (a' := ?_) #[true, true, true, true, false, true, false, false, true, true, false, false, false, false, false, false, false, false] rfl rfl (by kernel_rfl) (fun _ _ _ h => h) (Or.inl ⟨by rfl, ?_⟩) ?_ ?_
     rotate_left
     ·intro w'
      go_simp
      with_reducible rfl
     rotate_left
     ·simp only [Act.put, List.setIfInBounds_toArray, List.set_cons_zero, List.set_cons_succ, i64_w, i32_w]
      rfl
     refine pure_ (i := 10) (N := some 78) (v := ?_) (a' := ?_) #[true, true, true, true, false, true, false, false, true, true, true, false, false, false, false, false, false, false] rfl rfl (by kernel_rfl) (fun _ _ _ h => h) (Or.inl ⟨by rfl, ?_⟩) ?_ ?_
     rotate_left
     ·intro w'
      go_simp
      with_reducible rfl
     rotate_left
     ·simp only [Act.put, List.setIfInBounds_toArray, List.set_cons_zero, List.set_cons_succ, i64_w, i32_w]
      rfl
     refine pure_ (i := 11) (N := some 79) (v := ?_) (a' := ?_) #[true, true, true, true, false, true, false, false, true, true, true, true, false, false, false, false, false, false] rfl rfl (by kernel_rfl) (fun _ _ _ h => h) (Or.inl ⟨by rfl, ?_⟩) ?_ ?_
     rotate_left
     ·intro w'
      go_simp
      with_reducible rfl
     rotate_left
     ·simp only [Act.put, List.setIfInBounds_toArray, List.set_cons_zero, List.set_cons_succ, i64_w, i32_w]
      rfl
     refine pure_ (i := 13) (N := some 81) (v := ?_) (a' := ?_) #[true, true, true, true, false, true, false, false, true, true, true, true, false, true, false, false, false, false] rfl rfl (by kernel_rfl) (fun _ _ _ h => h) (Or.inl ⟨by rfl, ?_⟩) ?_ ?_
     rotate_left
     ·intro w'
      go_simp
      with_reducible rfl
     rotate_left
     ·simp only [Act.put, List.setIfInBounds_toArray, List.set_cons_zero, List.set_cons_succ, i64_w, i32_w]
      rfl
     refine take_ (i := 4) (N := some 72) (v := ?_) (a' := ?_) #[true, true, true, true, true, true, false, false, true, true, true, true, false, true, false, false, false, false] rfl rfl (by kernel_rfl) (fun _ _ _ h => h) (Or.inl ⟨by rfl, ?_⟩) hHeld ?_ ?_
     rotate_left
     ·rintro w' ⟨s0, s1, s2, s3, s4, s5, s6, s7, s8, s9, s10, s11, s12, s13, s14, s15, s16, s17⟩
      go_simp
      with_reducible rfl
     rotate_left
     ·simp only [Act.put, List.setIfInBounds_toArray, List.set_cons_zero, List.set_cons_succ, i64_w, i32_w]
      rfl
     refine pure_ (i := 6) (N := some 74) (v := ?_) (a' := ?_) #[true, true, true, true, true, true, true, false, true, true, true, true, false, true, false, false, false, false] rfl rfl (by kernel_rfl) (fun _ _ _ h => h) (Or.inl ⟨by rfl, ?_⟩) ?_ ?_
     rotate_left
     ·intro w'
      go_simp
      with_reducible rfl
     rotate_left
     ·simp only [Act.put, List.setIfInBounds_toArray, List.set_cons_zero, List.set_cons_succ, i64_w, i32_w]
      rfl
     refine take_ (i := 7) (N := some 75) (v := ?_) (a' := ?_) #[true, true, true, true, true, true, true, true, true, true, true, true, false, true, false, false, false, false] rfl rfl (by kernel_rfl) (fun _ _ _ h => h) (Or.inl ⟨by rfl, ?_⟩) hHeld ?_ ?_
     rotate_left
     ·rintro w' ⟨s0, s1, s2, s3, s4, s5, s6, s7, s8, s9, s10, s11, s12, s13, s14, s15, s16, s17⟩
      go_simp
      with_reducible rfl
     rotate_left
     ·simp only [Act.put, List.setIfInBounds_toArray, List.set_cons_zero, List.set_cons_succ, i64_w, i32_w]
      rfl
     refine take_ (i := 12) (N := some 80) (v := ?_) (a' := ?_) #[true, true, true, true, true, true, true, true, true, true, true, true, true, true, false, false, false, false] rfl rfl (by kernel_rfl) (fun _ _ _ h => h) (Or.inl ⟨by rfl, ?_⟩) hHeld ?_ ?_
     rotate_left
     ·rintro w' ⟨s0, s1, s2, s3, s4, s5, s6, s7, s8, s9, s10, s11, s12, s13, s14, s15, s16, s17⟩
      go_simp
      with_reducible rfl
     rotate_left
     ·simp only [Act.put, List.setIfInBounds_toArray, List.set_cons_zero, List.set_cons_succ, i64_w, i32_w]
      rfl
     refine pure_ (i := 14) (N := some 82) (v := ?_) (a' := ?_) #[true, true, true, true, true, true, true, true, true, true, true, true, true, true, true, false, false, false] rfl rfl (by kernel_rfl) (fun _ _ _ h => h) (Or.inl ⟨by rfl, ?_⟩) ?_ ?_
     rotate_left
     ·intro w'
      go_simp
      with_reducible rfl
     rotate_left
     ·simp only [Act.put, List.setIfInBounds_toArray, List.set_cons_zero, List.set_cons_succ, i64_w, i32_w]
      rfl
     refine take_ (i := 15) (N := some 83) (v := ?_) (a' := ?_) #[true, true, true, true, true, true, true, true, true, true, true, true, true, true, true, true, false, false] rfl rfl (by kernel_rfl) (fun _ _ _ h => h) (Or.inl ⟨by rfl, ?_⟩) hHeld ?_ ?_
     rotate_left
     ·rintro w' ⟨s0, s1, s2, s3, s4, s5, s6, s7, s8, s9, s10, s11, s12, s13, s14, s15, s16, s17⟩
      go_simp
      with_reducible rfl
     rotate_left
     ·simp only [Act.put, List.setIfInBounds_toArray, List.set_cons_zero, List.set_cons_succ, i64_w, i32_w]
      rfl
     refine one_ (i := 16) (N := some 84) #[true, true, true, true, true, true, true, true, true, true, true, true, true, true, true, true, true, false] rfl rfl (by kernel_rfl) (by decide) (fun K hK => ?_)
     refine goes_ Try.func42 (by kernel_rfl) rfl #[.agg #[.int .i64 u.f0, .int .i64 u.f1, .int .i64 u.f2, .int .i64 u.f3, .int .i64 u.f4, .slice A3 u.f5.length c3, .int .i64 u.f6.f0, .int .i64 u.f6.f1], .agg #[.int .i64 u.f0, .int .i64 u.f1, .int .i64 u.f2, .int .i64 u.f3, .int .i64 u.f4, .slice A3' u.f5.length c3', .int .i64 u.f6.f0, .int .i64 u.f6.f1]] (by rfl) rfl rfl (by simp only [List.map_toArray, List.map_cons, List.map_nil]; rfl) ?_
     with_reducible refine (sameinst_calls u A3 A3' c3 c3' _ (Kd.C_below HG3.out.1 HB5.out) HL3.out.1 (Kd.C_below HG3.out.2 HB5.out) HL3.out.2 HAL.out).mono ?_
     rintro e w6 ⟨rfl, hb6⟩
     refine ⟨_, rfl, ?_⟩
     have HB6 := Aside0.mk (below_step HB5.out hb6)
     have u0 := blk_cellB (w := wr.drew) x2 hb6
     have u1 := blk_cellB (w := wr.drew) x2' hb6
     have u2 := blk_cellB (w := wr.drew) z0 hb6
     have u3 := blk_cellB (w := wr.drew) z1 hb6
     have u4 := blk_cellB (w := wr.drew) z2 hb6
     have u5 := blk_cellB (w := wr.drew) z3 hb6
     have u6 := blk_cellB (w := wr.drew) z4 hb6
     have u7 := blk_cellB (w := wr.drew) z5 hb6
     have u8 := blk_cellB (w := wr.drew) z6 hb6
     have u9 := blk_cellB (w := wr.drew) z7 hb6
     have u10 := blk_cellB (w := wr.drew) z0' hb6
     have u11 := blk_cellB (w := wr.drew) z1' hb6
     have u12 := blk_cellB (w := wr.drew) z2' hb6
     have u13 := blk_cellB (w := wr.drew) z3' hb6
     have u14 := blk_cellB (w := wr.drew) z4' hb6
     have u15 := blk_cellB (w := wr.drew) z5' hb6
     have u16 := blk_cellB (w := wr.drew) z6' hb6
     have u17 := blk_cellB (w := wr.drew) z7' hb6
     clear hb6
     refine hK.out _ _ ⟨u0, u1, u2, u3, u4, u5, u6, u7, u8, u9, u10, u11, u12, u13, u14, u15, u16, u17⟩ (fun hHeld => ?_)
     clear hK K
     refine norm_ (a' := ?_) ?_ ?_
     rotate_left
     ·show Act.put _ (some 84) _ = _
      simp only [Act.put, List.setIfInBounds_toArray, List.set_cons_zero, List.set_cons_succ, i64_w, i32_w]
      rfl
     refine pure_ (i := 17) (N := some 85) (v := ?_) (a' := ?_) #[true, true, true, true, true, true, true, true, true, true, true, true, true, true, true, true, true, true] rfl rfl (by kernel_rfl) (fun _ _ _ h => h) (Or.inl ⟨by rfl, ?_⟩) ?_ ?_
     rotate_left
     ·intro w'
      go_simp
      with_reducible rfl
     rotate_left
     ·simp only [Act.put, List.setIfInBounds_toArray, List.set_cons_zero, List.set_cons_succ, i64_w, i32_w]
      rfl
     refine done_ (by kernel_rfl) ?_
     go_wp2
     go_roundg (f.f2.length - (y + 1).toNat)
     case measure => have := HR.out; have := HXJ.out; have := HJ.out; omega
     case rel => exact ⟨y + 1, by rw [show wrap64 (y + 1) = y + 1 from w64 (by have := HJ.out; omega) (by have := HXJ.out; have := (HFA.out 0).2.1; omega)], ⟨by have := HXJ.out; have := HJ.out; omega⟩, ⟨HB6.out⟩, ⟨rfl⟩⟩
    ·have d2_ : decide (y < (f.f2.length : Int)) = false := decide_eq_false hj
     clear hj
     go_wp2
     go_roundg (l.length - (x + 1).toNat)
     case measure => have := HQ.out; have := HXI.out; have := HI.out; omega
     case rel => exact ⟨x + 1, by rw [show wrap64 (x + 1) = x + 1 from w64 (by have := HI.out; omega) (by have := HXI.out; have := HLN.out; omega)], ⟨by have := HXI.out; have := HI.out; omega⟩, ⟨HBY.out⟩, ⟨rfl⟩⟩
  ·have d1_ : decide (x < (l.length : Int)) = false := decide_eq_false hi
   clear hi
   go_wp2
   go_ret
   exact ⟨rfl, HB.out⟩
end Go.Proofs.Ytkgjbdbhpohkiaa.PLi
end
