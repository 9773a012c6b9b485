/- The walk of the law ArithTrue (its arrays are indexed by a variable, which the print does not take). -/
import Derived.Test.YthnkgnbemmndgaaPAtx2
import Derived.Test.YthnkgnbemmndgaaPAtx1
import Derived.Test.YthnkgnbemmndgaaPAtx3
import Derived.Lib.OthersKept
namespace Go.Proofs.Ythnkgnbemmndgaa.PAt
open Go.RowKit Go.Proofs.YthnkgnbemmndgaaW.PrintWords Go.Proofs.YthnkgnbemmndgaaW.PrintLast Go.Proofs.YthnkgnbemmndgaaW.PrintMore
set_option linter.unusedVariables false
set_option linter.unusedSimpArgs false

def turntablelaw04_ArithTrue.f (k : Nat) (a0 : Int) (b0 b1 : Bool) (n0 n1 x y : Int) : Option Bool :=
  (arith_Simple.f k a0 b0 b1 n0 n1).bind fun p => if p.1 < 0 then turntablelaw04_works.f k else
    (arith_Do.f a0 (if b0 = true then n0 else x) (if b1 = true then n1 else y)).bind fun q =>
      if p.1 ≤ 2 ∧ q.2 = 0 ∧ (if p.1 = 0 then (if b0 = true then n0 else x) else if p.1 = 1 then (if b1 = true then n1 else y) else p.2) = q.1 then turntablelaw04_works.f k else some false

/-- A number of the list, behind i rounds. -/
def sel (i t : Nat) (b : Bool) (n x : Int) : Int := if t < i ∧ b = true then n else x
theorem sel_no {i t : Nat} (h : ¬ t < i) (b : Bool) (n x : Int) : sel i t b n x = x := if_neg (fun e => h e.1)
theorem sel_yes {i t : Nat} (h : t < i) (b : Bool) (n x : Int) : sel i t b n x = if b = true then n else x := by
  unfold sel; cases b <;> simp [h]

def TrueAt (B : Nat) (b0 b1 : Bool) (n0 n1 l0 l1 : Int) (w wr : World) : Prop := wr.heap[B]? = some (.cells #[.bool b0, .bool b1] 27 (0, 0)) ∧ wr.heap[B + 1]? = some (.cells #[.int .i64 n0, .int .i64 n1] 28 (0, 0)) ∧ wr.heap[B + 1 + 1]? = some (.cells #[.int .i64 l0, .int .i64 l1] 28 (0, 0)) ∧ Below B w wr

set_option maxHeartbeats 2000000 in
set_option maxRecDepth 100000 in
theorem turntablelaw04_ArithTrue.calls (k : Nat) (a0 : Int) (b0 b1 : Bool) (n0 n1 x y : Int) (r : Bool) (w : World) (h : turntablelaw04_ArithTrue.f k a0 b0 b1 n0 n1 x y = some r) :
    Calls Try.prog 5 #[.int .i64 a0, .agg #[.bool b0, .bool b1], .agg #[.int .i64 n0, .int .i64 n1], .int .i64 x, .int .i64 y] w fun e w' => e = .returned (.bool r) ∧ Below w.heap.size w w' := by
  have hu27 := Try.underlying27
  have hu28 := Try.underlying28
  unfold turntablelaw04_ArithTrue.f at h
  have h9 := Option.bind_eq_some_iff.mp h
  clear h
  obtain ⟨⟨p1, p2⟩, hS, h⟩ := h9
  have HS := Aside0.mk hS
  have H := Aside0.mk h
  clear hS h
  go_enter Try.func5, Try.ntmps5
  go_wp2
  go_loopg [12] 2 (fun kq v12 w' => ∃ i : Nat, v12 = .int .i64 i ∧ Aside0 (i ≤ 2) ∧ Aside0 (TrueAt w.heap.size b0 b1 n0 n1 (sel i 0 b0 n0 x) (sel i 1 b1 n1 y) w w') ∧ Aside0 (kq = 2 - i))
  case atStart =>
    have b0' := blk_new w (.cells #[.bool b0, .bool b1] 27)
    have b1' := blk_new (w.alloc (.cells #[.bool b0, .bool b1] 27)) (.cells #[.int .i64 n0, .int .i64 n1] 28)
    have b2' := blk_new ((w.alloc (.cells #[.bool b0, .bool b1] 27)).alloc (.cells #[.int .i64 n0, .int .i64 n1] 28)) (.cells #[.int .i64 x, .int .i64 y] 28)
    simp only [World.size_alloc] at b1' b2'
    refine ⟨0, rfl, ⟨by omega⟩, ⟨blk_alloc (blk_alloc b0' _) _, blk_alloc b1' _, ?_, below_alloc (below_alloc (below_alloc (Below.refl _ _) _) _) _⟩, ⟨rfl⟩⟩
    rw [sel_no (by omega), sel_no (by omega)]
    exact b2'
  case round =>
    obtain ⟨i, rfl, HI, HT, HK⟩ := hrel
    obtain ⟨hb, hn, hl, hbel⟩ := HT.out
    have cb0 : wr.cell? ⟨w.heap.size, 0, none⟩ = some (.bool b0) := (blk_cell hb 0).trans rfl
    have cb1 : wr.cell? ⟨w.heap.size, 1, none⟩ = some (.bool b1) := (blk_cell hb 1).trans rfl
    have cn0 : wr.cell? ⟨w.heap.size + 1, 0, none⟩ = some (.int .i64 n0) := (blk_cell hn 0).trans rfl
    have cn1 : wr.cell? ⟨w.heap.size + 1, 1, none⟩ = some (.int .i64 n1) := (blk_cell hn 1).trans rfl
    have HB := Aside0.mk hb
    have HN := Aside0.mk hn
    have HBel := Aside0.mk hbel
    clear hb hn hbel
    have hi := HI.out
    by_cases hi2 : i < 2
    · have hi3 : i = 0 ∨ i = 1 := by omega
      clear hi hi2
      rcases hi3 with rfl | rfl
      · rw [sel_no (by omega), sel_no (by omega)] at hl
        have cl0 : wr.cell? ⟨w.heap.size + 1 + 1, 0, none⟩ = some (.int .i64 x) := (blk_cell hl 0).trans rfl
        have zl0 : wr.frozen? ⟨w.heap.size + 1 + 1, 0, none⟩ = false := blk_frozen hl 0
        have HL := Aside0.mk hl
        clear hl
        cases b0 with
        | true =>
          go_wp2
          go_roundg 1
          case measure => have := HK.out; omega
          case rel =>
            refine ⟨1, rfl, ⟨by omega⟩, ⟨blk_far HB.out (p := ⟨w.heap.size + 1 + 1, 0, none⟩) (show w.heap.size ≠ w.heap.size + 1 + 1 by omega) _, blk_far HN.out (p := ⟨w.heap.size + 1 + 1, 0, none⟩) (show w.heap.size + 1 ≠ w.heap.size + 1 + 1 by omega) _, ?_, HBel.out.setCell (show w.heap.size ≤ w.heap.size + 1 + 1 by omega) _⟩, ⟨rfl⟩⟩
            rw [sel_yes (by omega), if_pos rfl, sel_no (by omega)]
            exact blk_put (cs := #[.int .i64 x, .int .i64 y]) HL.out 0 _ rfl
        | false =>
          go_wp2
          go_roundg 1
          case measure => have := HK.out; omega
          case rel =>
            refine ⟨1, rfl, ⟨by omega⟩, ⟨HB.out, HN.out, ?_, HBel.out⟩, ⟨rfl⟩⟩
            rw [sel_yes (by omega), if_neg (by simp), sel_no (by omega)]
            exact HL.out
      · rw [sel_yes (by omega), sel_no (by omega)] at hl
        have cl1 : wr.cell? ⟨w.heap.size + 1 + 1, 1, none⟩ = some (.int .i64 y) := (blk_cell hl 1).trans rfl
        have zl1 : wr.frozen? ⟨w.heap.size + 1 + 1, 1, none⟩ = false := blk_frozen hl 1
        have HL := Aside0.mk hl
        clear hl
        cases b1 with
        | true =>
          go_wp2
          go_roundg 0
          case measure => have := HK.out; omega
          case rel =>
            refine ⟨2, rfl, ⟨by omega⟩, ⟨blk_far HB.out (p := ⟨w.heap.size + 1 + 1, 1, none⟩) (show w.heap.size ≠ w.heap.size + 1 + 1 by omega) _, blk_far HN.out (p := ⟨w.heap.size + 1 + 1, 1, none⟩) (show w.heap.size + 1 ≠ w.heap.size + 1 + 1 by omega) _, ?_, HBel.out.setCell (show w.heap.size ≤ w.heap.size + 1 + 1 by omega) _⟩, ⟨rfl⟩⟩
            rw [sel_yes (t := 0) (by omega), sel_yes (t := 1) (by omega), if_pos (c := true = true) rfl]
            exact blk_put (cs := #[.int .i64 (if b0 = true then n0 else x), .int .i64 y]) HL.out 1 _ rfl
        | false =>
          go_wp2
          go_roundg 0
          case measure => have := HK.out; omega
          case rel =>
            refine ⟨2, rfl, ⟨by omega⟩, ⟨HB.out, HN.out, ?_, HBel.out⟩, ⟨rfl⟩⟩
            rw [sel_yes (t := 0) (by omega), sel_yes (t := 1) (by omega), if_neg (c := false = true) (by simp)]
            exact HL.out
    · have hi3 : i = 2 := by omega
      subst hi3
      rw [sel_yes (by omega), sel_yes (by omega)] at hl
      clear hi hi2 HK HI HT
      have HL := Aside0.mk hl
      clear hl
      generalize (if b0 = true then n0 else x) = l0 at *
      generalize (if b1 = true then n1 else y) = l1 at *
      go_wp2_with fail
      refine (arith_Simple.calls k a0 b0 b1 n0 n1 p1 p2 _ HS.out).mono ?_
      rintro e w1 ⟨rfl, hb1⟩
      have hl1 := blk_below HL.out hb1
      have HB1 := Aside0.mk (below_step HBel.out hb1)
      have h := H.out
      have cl0 : w1.cell? ⟨w.heap.size + 1 + 1, 0, none⟩ = some (.int .i64 l0) := (blk_cell hl1 0).trans rfl
      have cl1 : w1.cell? ⟨w.heap.size + 1 + 1, 1, none⟩ = some (.int .i64 l1) := (blk_cell hl1 1).trans rfl
      clear hb1 hl1 H HB HN HBel HL cb0 cb1 cn0 cn1
      by_cases hp : p1 < 0
      · rw [if_pos hp] at h
        have HW := Aside0.mk h
        have hdp : decide (p1 < 0) = true := decide_eq_true hp
        clear h hp
        go_wp2_with fail
        refine (turntablelaw04_works.calls k r _ HW.out).mono ?_
        rintro e w2 ⟨rfl, hb2⟩
        have HB2 := Aside0.mk (below_step HB1.out hb2)
        clear hb2
        go_wp2
        go_ret
        exact ⟨rfl, HB2.out⟩
      · rw [if_neg hp] at h
        have hdp : decide (p1 < 0) = false := decide_eq_false hp
        obtain ⟨⟨q1, q2⟩, hD, h⟩ := Option.bind_eq_some_iff.mp h
        have HD := Aside0.mk hD
        have H := Aside0.mk h
        clear hD h
        go_wp2_with fail
        refine (arith_Do.calls a0 l0 l1 q1 q2 _ HD.out).mono ?_
        rintro e w2 ⟨rfl, ⟨nd, rfl⟩⟩
        have cm0 : (w1.drewN nd).cell? ⟨w.heap.size + 1 + 1, 0, none⟩ = some (.int .i64 l0) := cl0
        have cm1 : (w1.drewN nd).cell? ⟨w.heap.size + 1 + 1, 1, none⟩ = some (.int .i64 l1) := cl1
        have HB2 := Aside0.mk (pw_below_drewN HB1.out nd)
        generalize w1.drewN nd = w2 at *
        clear cl0 cl1
        have fin : ∀ (z : Int) (b : Bool), (p1 ≤ 2 ↔ b = true) → (if p1 = 0 then l0 else if p1 = 1 then l1 else p2) = z → Aside0 ((if b = true ∧ q2 = 0 ∧ z = q1 then turntablelaw04_works.f k else some false) = some r) := by
          intro z b hb hz
          refine ⟨?_⟩
          rw [← H.out]
          subst hz
          by_cases hp2 : p1 ≤ 2
          · have := hb.1 hp2; subst this; simp [hp2]
          · have : b = false := by cases b with
              | false => rfl
              | true => exact absurd (hb.2 rfl) hp2
            subst this; simp [hp2]
        have hp3 : p1 = 0 ∨ p1 = 1 ∨ p1 = 2 ∨ 2 < p1 := by omega
        clear H hdp
        rcases hp3 with rfl | rfl | rfl | hp3
        · have HE := fin l0 true (by simp) (by simp)
          clear fin hp
          by_cases hq : q2 = 0
          · subst hq
            by_cases hx : l0 = q1
            · have hxb : (l0 == q1) = true := beq_iff_eq.mpr hx
              have HW := Aside0.mk (show turntablelaw04_works.f k = some r by have := HE.out; rwa [if_pos ⟨rfl, rfl, hx⟩] at this)
              clear HE hx
              go_wp2_with fail
              refine (turntablelaw04_works.calls k r _ HW.out).mono ?_
              rintro e w3 ⟨rfl, hb2⟩
              have HB3 := Aside0.mk (below_step HB2.out hb2)
              clear hb2
              go_wp2
              go_ret
              exact ⟨rfl, HB3.out⟩
            · have hxb : (l0 == q1) = false := beq_eq_false_iff_ne.mpr hx
              have hr : r = false := by have := HE.out; rw [if_neg (fun e => hx e.2.2)] at this; exact (Option.some.inj this).symm
              clear HE hx
              subst hr
              go_wp2
              go_ret
              exact ⟨rfl, HB2.out⟩
          · have hqb : (q2 == 0) = false := beq_eq_false_iff_ne.mpr hq
            have hr : r = false := by have := HE.out; rw [if_neg (fun e => hq e.2.1)] at this; exact (Option.some.inj this).symm
            clear HE hq
            subst hr
            go_wp2
            go_ret
            exact ⟨rfl, HB2.out⟩
        · have HE := fin l1 true (by simp) (by simp)
          clear fin hp
          by_cases hq : q2 = 0
          · subst hq
            by_cases hx : l1 = q1
            · have hxb : (l1 == q1) = true := beq_iff_eq.mpr hx
              have HW := Aside0.mk (show turntablelaw04_works.f k = some r by have := HE.out; rwa [if_pos ⟨rfl, rfl, hx⟩] at this)
              clear HE hx
              go_wp2_with fail
              refine (turntablelaw04_works.calls k r _ HW.out).mono ?_
              rintro e w3 ⟨rfl, hb2⟩
              have HB3 := Aside0.mk (below_step HB2.out hb2)
              clear hb2
              go_wp2
              go_ret
              exact ⟨rfl, HB3.out⟩
            · have hxb : (l1 == q1) = false := beq_eq_false_iff_ne.mpr hx
              have hr : r = false := by have := HE.out; rw [if_neg (fun e => hx e.2.2)] at this; exact (Option.some.inj this).symm
              clear HE hx
              subst hr
              go_wp2
              go_ret
              exact ⟨rfl, HB2.out⟩
          · have hqb : (q2 == 0) = false := beq_eq_false_iff_ne.mpr hq
            have hr : r = false := by have := HE.out; rw [if_neg (fun e => hq e.2.1)] at this; exact (Option.some.inj this).symm
            clear HE hq
            subst hr
            go_wp2
            go_ret
            exact ⟨rfl, HB2.out⟩
        · have HE := fin p2 true (by simp) (by simp)
          clear fin hp
          by_cases hq : q2 = 0
          · subst hq
            by_cases hx : p2 = q1
            · have hxb : (p2 == q1) = true := beq_iff_eq.mpr hx
              have HW := Aside0.mk (show turntablelaw04_works.f k = some r by have := HE.out; rwa [if_pos ⟨rfl, rfl, hx⟩] at this)
              clear HE hx
              go_wp2_with fail
              refine (turntablelaw04_works.calls k r _ HW.out).mono ?_
              rintro e w3 ⟨rfl, hb2⟩
              have HB3 := Aside0.mk (below_step HB2.out hb2)
              clear hb2
              go_wp2
              go_ret
              exact ⟨rfl, HB3.out⟩
            · have hxb : (p2 == q1) = false := beq_eq_false_iff_ne.mpr hx
              have hr : r = false := by have := HE.out; rw [if_neg (fun e => hx e.2.2)] at this; exact (Option.some.inj this).symm
              clear HE hx
              subst hr
              go_wp2
              go_ret
              exact ⟨rfl, HB2.out⟩
          · have hqb : (q2 == 0) = false := beq_eq_false_iff_ne.mpr hq
            have hr : r = false := by have := HE.out; rw [if_neg (fun e => hq e.2.1)] at this; exact (Option.some.inj this).symm
            clear HE hq
            subst hr
            go_wp2
            go_ret
            exact ⟨rfl, HB2.out⟩
        · have HE := fin p2 false (by simp; omega) (by rw [if_neg (by omega), if_neg (by omega)])
          have h1 : decide (p1 < 0) = false := decide_eq_false (by omega)
          have h2 : decide (p1 < 2) = false := decide_eq_false (by omega)
          have h3 : decide (p1 ≤ 2) = false := decide_eq_false (by omega)
          have hr : r = false := by have := HE.out; rw [if_neg (fun e => by cases e.1)] at this; exact (Option.some.inj this).symm
          clear fin hp HE hp3
          subst hr
          go_wp2
          go_ret
          exact ⟨rfl, HB2.out⟩
end Go.Proofs.Ythnkgnbemmndgaa.PAt
