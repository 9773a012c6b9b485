import Derived.Test.YtkgjbdbhpohkiaaMr19
import Derived.Test.YtkgjbdbhpohkiaaMr13
import Derived.Test.YtkgjbdbhpohkiaaMr24
import Derived.Test.YtkgjbdbhpohkiaaMr2
import Derived.Test.YtkgjbdbhpohkiaaMr5
import Derived.Test.YtkgjbdbhpohkiaaMr17
import Derived.Test.YtkgjbdbhpohkiaaMr15
import Derived.Test.YtkgjbdbhpohkiaaMr7
-- from YtkgjbdbhpohkiaaHRRInst
section
namespace Go.Proofs.Ytkgjbdbhpohkiaa.PLi
open Go.RowKit Go.Proofs.YtkgjbdbhpohkiaaW.PrintWords Go.Proofs.YtkgjbdbhpohkiaaW.PrintLast Go.Proofs.YtkgjbdbhpohkiaaW.PrintMore Go.Proofs.Ytkgjbdbhpohkiaa.Str
set_option linter.unusedVariables false
set_option linter.unusedSimpArgs false
def rrStep (k : Nat) (tl : List (S84)) (c : Nat) : RSt → Option RSt
 | (x, s1, s2, s3, s4) => if c = 100 then ((r37_Reader_slot.f k tl s1 s2 s3 s4).bind fun y0 => some (⟨x.f0, y0.1, x.f2, x.f3, x.f4, x.f5, ⟨x.f6.f0, x.f6.f1⟩⟩, y0.2.1, y0.2.2.1, y0.2.2.2.1, y0.2.2.2.2)) else if c = 97 then (if x.f0 = 21 then ((r37_Reader_index.f k tl s1 s2 s3 s4 102 31 12).bind fun y0 => some (⟨x.f0, x.f1, y0.1, x.f3, x.f4, x.f5, ⟨x.f6.f0, x.f6.f1⟩⟩, y0.2.1, y0.2.2.1, y0.2.2.2.1, y0.2.2.2.2)) else ((r37_Reader_slot.f k tl s1 s2 s3 s4).bind fun y0 => some (⟨x.f0, x.f1, y0.1, x.f3, x.f4, x.f5, ⟨x.f6.f0, x.f6.f1⟩⟩, y0.2.1, y0.2.2.1, y0.2.2.2.1, y0.2.2.2.2))) else if c = 98 then ((r37_Reader_slot.f k tl s1 s2 s3 s4).bind fun y0 => some (⟨x.f0, x.f1, x.f2, y0.1, x.f4, x.f5, ⟨x.f6.f0, x.f6.f1⟩⟩, y0.2.1, y0.2.2.1, y0.2.2.2.1, y0.2.2.2.2)) else if c = 115 then ((r37_Reader_number.f k tl s1 s2 s3 s4).bind fun y0 => some (⟨x.f0, x.f1, x.f2, x.f3, y0.1, x.f5, ⟨x.f6.f0, x.f6.f1⟩⟩, y0.2.1, y0.2.2.1, y0.2.2.2.1, y0.2.2.2.2)) else if c = 119 then ((r37_Reader_number.f k tl s1 s2 s3 s4).bind fun y0 => some (⟨x.f0, x.f1, x.f2, x.f3, y0.1, x.f5, ⟨x.f6.f0, x.f6.f1⟩⟩, y0.2.1, y0.2.2.1, y0.2.2.2.1, y0.2.2.2.2)) else if c = 108 then ((r37_Reader_list.f k tl s1 s2 s3 s4).bind fun y0 => some (⟨x.f0, x.f1, x.f2, x.f3, x.f4, y0.1, ⟨x.f6.f0, x.f6.f1⟩⟩, y0.2.1, y0.2.2.1, y0.2.2.2.1, y0.2.2.2.2)) else if c = 111 then ((r37_Reader_index.f k tl s1 s2 s3 s4 64 65535 7).bind fun y0 => some (⟨x.f0, x.f1, x.f2, x.f3, x.f4, x.f5, ⟨y0.1, x.f6.f1⟩⟩, y0.2.1, y0.2.2.1, y0.2.2.2.1, y0.2.2.2.2)) else if c = 116 then ((r37_Reader_index.f k tl s1 s2 s3 s4 64 65535 7).bind fun y0 => (r37_Reader_index.f k tl y0.2.1 y0.2.2.1 y0.2.2.2.1 y0.2.2.2.2 64 65535 7).bind fun y1 => some (⟨x.f0, x.f1, x.f2, x.f3, x.f4, x.f5, ⟨y0.1, y1.1⟩⟩, y1.2.1, y1.2.2.1, y1.2.2.2.1, y1.2.2.2.2)) else some (x, s1, s2, s3, s4)
def rrSteps (k : Nat) (tl : List (S84)) : List UInt8 → RSt → Option RSt
 | [], st => some st
 | c :: cs, st => (rrStep k tl c.toNat st).bind fun st2 => rrSteps k tl cs st2
def rrOut : RSt → Int × Int × Int × Int × Int × List Int × Int × Int × Int × Int × Int × Int
 | (x, s1, s2, s3, s4) => (x.f0, x.f1, x.f2, x.f3, x.f4, x.f5, x.f6.f0, x.f6.f1, s1, s2, s3, s4)
def r37_Reader_inst.f (k : Nat) (tl : List (S84)) (s1 s2 s3 s4 : Int) : Option (Int × Int × Int × Int × Int × List Int × Int × Int × Int × Int × Int × Int) :=
 (r37_Reader_peek.f tl s1 s2 s3 s4).bind fun p => (r37_find.f k p.1).bind fun op => (if op = 0 then r37_Reader_fail.f tl p.2.1 p.2.2.1 p.2.2.2.1 p.2.2.2.2 2 else some (p.2.1, p.2.2.1, p.2.2.2.1, p.2.2.2.2)).bind fun q =>
  (r33_Pieces.f op).bind fun ps => if asciiB ps = true ∧ ps.size ≤ 8 then (rrSteps k tl ps.data.toList (⟨op, -1, -1, -1, 0, [], ⟨0, 0⟩⟩, wrap64 (q.1 + 1), q.2.1, q.2.2.1, q.2.2.2)).bind fun st => some (rrOut st) else none
structure RRAt (g b2 b3 : Nat) (z : Array Value) (tl : List (S84)) (x : S37) (v : Value) (s1 s2 s3 s4 : Int) (w0 w w' : World) : Prop where
 i : IsS71 w0 w' g tl s1 s2 s3 s4
 b : Below w0.heap.size w0 w'
 k : KeepBut w w' g none
 wb : w0.heap.size ≤ w.heap.size
 gl : g < w.heap.size
 ge : w.heap.size ≤ b2
 lt : b2 < b3
 zero : w'.heap[b2]? = some (.cells z 37 (0, 0))
 box : w'.heap[b3]? = some (.cells (instObj x v) 37 (0, 0))
 row : Kd.R (Kd.int .i64) 3 w' w.heap.size (fun _ => True) v x.f5
section
variable {g b2 b3 : Nat} {z : Array Value} {tl : List (S84)} {x : S37} {v : Value} {s1 s2 s3 s4 r1 r2 r3 r4 : Int} {w0 w w1 w2 : World}
theorem RRAt.call (h : RRAt g b2 b3 z tl x v s1 s2 s3 s4 w0 w w1) (hi : IsS71 w0 w2 g tl r1 r2 r3 r4) (hb : Below w0.heap.size w0 w2) (hk : KeepBut w1 w2 g none) : RRAt g b2 b3 z tl x v r1 r2 r3 r4 w0 w w2 := by
 obtain ⟨A0, c0, hG, -, -⟩ := h.i
 have h1 := h.gl
 have h2 := h.ge
 have h3 := h.lt
 exact ⟨hi, hb, h.k.trans hk (.inl rfl), h.wb, h.gl, h.ge, h.lt, hk.blk h.zero (by omega) (by simp), hk.blk h.box (by omega) (by simp), row_keep h.row hG (by decide) hk⟩
theorem RRAt.below (h : RRAt g b2 b3 z tl x v s1 s2 s3 s4 w0 w w1) (hb : Below w1.heap.size w1 w2) : RRAt g b2 b3 z tl x v s1 s2 s3 s4 w0 w w2 :=
 ⟨h.i.below hb, below_step h.b hb, h.k.trans (KeepBut.of_below hb g none) (.inl rfl), h.wb, h.gl, h.ge, h.lt, blk_below h.zero hb, blk_below h.box hb, Kd.R_below h.row hb⟩
theorem RRAt.put (h : RRAt g b2 b3 z tl x v s1 s2 s3 s4 w0 w w1) (x2 : S37) (j : Nat) (u : Value) (hc : (instObj x v).setIfInBounds j u = instObj x2 v) (h5 : x2.f5 = x.f5) : RRAt g b2 b3 z tl x2 v s1 s2 s3 s4 w0 w (w1.setCell ⟨b3, j, none⟩ u) := by
 have h1 := h.gl
 have h2 := h.ge
 have h3 := h.lt
 have h4 := h.wb
 exact ⟨h.i.far (by show g ≠ b3; omega) u, below_set h.b (by show _ ≤ b3; omega), keep_far h.k (by show _ ≤ b3; omega) u, h.wb, h.gl, h.ge, h.lt, (Below.heap_setCell w1 ⟨b3, j, none⟩ u _ (by show b2 ≠ b3; omega)).trans h.zero, blk_put h.box j u hc,
  by rw [h5]; exact Kd.R_mono (Kd.R_far (p := ⟨b3, j, none⟩) (Kd.R_types h.row h.box (by decide)) (fun _ hk => hk.2) u) (fun _ _ => trivial)⟩
theorem RRAt.putL (h : RRAt g b2 b3 z tl x v s1 s2 s3 s4 w0 w w1) (l : List Int) (u : Value) (hu : Kd.R (Kd.int .i64) 3 w1 w.heap.size (fun _ => True) u l) : RRAt g b2 b3 z tl { x with f5 := l } u s1 s2 s3 s4 w0 w (w1.setCell ⟨b3, 5, none⟩ u) := by
 have h1 := h.gl
 have h2 := h.ge
 have h3 := h.lt
 have h4 := h.wb
 exact ⟨h.i.far (by show g ≠ b3; omega) u, below_set h.b (by show _ ≤ b3; omega), keep_far h.k (by show _ ≤ b3; omega) u, h.wb, h.gl, h.ge, h.lt, (Below.heap_setCell w1 ⟨b3, 5, none⟩ u _ (by show b2 ≠ b3; omega)).trans h.zero, blk_put h.box 5 u rfl,
  Kd.R_mono (Kd.R_far (p := ⟨b3, 5, none⟩) (Kd.R_types hu h.box (by decide)) (fun _ hk => hk.2) u) (fun _ _ => trivial)⟩
theorem RRAt.setz (h : RRAt g b2 b3 z tl x v s1 s2 s3 s4 w0 w w1) (j : Nat) (u : Value) : RRAt g b2 b3 (z.setIfInBounds j u) tl x v s1 s2 s3 s4 w0 w (w1.setCell ⟨b2, j, none⟩ u) := by
 have h1 := h.gl
 have h2 := h.ge
 have h3 := h.lt
 have h4 := h.wb
 exact ⟨h.i.far (by show g ≠ b2; omega) u, below_set h.b (by show _ ≤ b2; omega), keep_far h.k (by show _ ≤ b2; omega) u, h.wb, h.gl, h.ge, h.lt, blk_put h.zero j u rfl, (Below.heap_setCell w1 ⟨b2, j, none⟩ u _ (by show b3 ≠ b2; omega)).trans h.box,
  Kd.R_mono (Kd.R_far (p := ⟨b2, j, none⟩) (Kd.R_types h.row h.zero (by decide)) (fun _ hk => hk.2) u) (fun _ _ => trivial)⟩
theorem RRAt.at1 (h : RRAt g b2 b3 z tl x v s1 s2 s3 s4 w0 w w1) (j : Nat) : w1.cell? ⟨b3, j, none⟩ = (instObj x v)[j]? := blk_cell h.box j
end
theorem rr_round (k : Nat) (tl : List (S84)) (q : ByteArray) (st R : RSt) (x5 : Int) (h0 : 0 ≤ x5) (h1 : x5 < (q.size : Int)) (h : rrSteps k tl (q.data.toList.drop x5.toNat) st = some R) :
  ∃ (cn : Nat) (st2 : RSt), bt q x5 = (cn : Int) ∧ rrStep k tl cn st = some st2 ∧ rrSteps k tl (q.data.toList.drop (x5 + 1).toNat) st2 = some R := by
 obtain ⟨n, rfl⟩ := Int.eq_ofNat_of_zero_le h0
 have hp : n < q.size := by omega
 have hp2 : n < q.data.toList.length := by rw [← size_data]; exact hp
 rw [Int.toNat_natCast, List.drop_eq_getElem_cons hp2] at h
 obtain ⟨s, hs, h⟩ := Option.bind_eq_some_iff.mp h
 have e1 : ((n : Int) + 1).toNat = n + 1 := by omega
 rw [e1]
 exact ⟨_, s, (bt_at q (n : Int) (by rw [Int.toNat_natCast]; exact hp)).symm, hs, h⟩
set_option maxHeartbeats 8000000 in
set_option maxRecDepth 100000 in
theorem r37_Reader_inst.calls (k : Nat) (g : Nat) (s0_0 : List (S84)) (s0_1 : Int) (s0_2 : Int) (s0_3 : Int) (s0_4 : Int) (r1 : Int) (r2 : Int) (r3 : Int) (r4 : Int) (r5 : Int) (r6 : List Int) (r7 : Int) (r8 : Int) (r9 : Int) (r10 : Int) (r11 : Int) (r12 : Int) (w0 w : World) (hI : IsS71 w0 w g s0_0 s0_1 s0_2 s0_3 s0_4) (hB : Below w0.heap.size w0 w) (h : r37_Reader_inst.f k s0_0 s0_1 s0_2 s0_3 s0_4 = some (r1, r2, r3, r4, r5, r6, r7, r8, r9, r10, r11, r12)) :
 Calls Try.prog 72 #[.pointer (some ⟨g, 0, none⟩)] w fun e w' => ∃ v5_ : Value, e = .returned (.agg #[.int .i64 r1, .int .i64 r2, .int .i64 r3, .int .i64 r4, .int .i64 r5, v5_, .int .i64 r7, .int .i64 r8]) ∧ Kd.R (Kd.int .i64) 3 w' w.heap.size (fun _ => True) v5_ r6 ∧ IsS71 w0 w' g s0_0 r9 r10 r11 r12 ∧ Below w0.heap.size w0 w' ∧ KeepBut w w' g none := by
 have hu37 := Try.underlying37
 unfold r37_Reader_inst.f at h
 replace h := Option.bind_eq_some_iff.mp h
 obtain ⟨⟨p0, p1, p2, p3, p4⟩, hp, h⟩ := h
 replace h := Option.bind_eq_some_iff.mp h
 obtain ⟨op, hop, h⟩ := h
 replace h := Option.bind_eq_some_iff.mp h
 obtain ⟨⟨q1, q2, q3, q4⟩, hq, h⟩ := h
 replace h := Option.bind_eq_some_iff.mp h
 obtain ⟨ps, hps, h⟩ := h
 by_cases hg : asciiB ps = true ∧ ps.size ≤ 8
 rotate_left
 ·rw [if_neg hg] at h
  cases h
 rw [if_pos hg] at h
 replace h := Option.bind_eq_some_iff.mp h
 obtain ⟨st, hst, h⟩ := h
 have HO := Aside0.mk (Option.some.inj h)
 have HP := Aside0.mk hp
 have HOP := Aside0.mk hop
 have HQ := Aside0.mk hq
 have HPS := Aside0.mk hps
 have HG := Aside0.mk hg
 have HST := Aside0.mk hst
 have HI := Aside0.mk hI
 have HB := Aside0.mk hB
 have HL := Aside0.mk hI.lt
 clear h hp hop hq hps hg hst hI hB
 go_enter Try.func72, Try.ntmps72
 have hbz := blk_new w (.cells #[.int .i64 0, .int .i64 0, .int .i64 0, .int .i64 0, .int .i64 0, .slice none 0 0, .int .i64 0, .int .i64 0] 37)
 have hi0 := HI.out.alloc (.cells #[.int .i64 0, .int .i64 0, .int .i64 0, .int .i64 0, .int .i64 0, .slice none 0 0, .int .i64 0, .int .i64 0] 37)
 have hb0 := below_alloc HB.out (.cells #[.int .i64 0, .int .i64 0, .int .i64 0, .int .i64 0, .int .i64 0, .slice none 0 0, .int .i64 0, .int .i64 0] 37)
 have hk0 := keep_alloc (g := g) (KeepBut.refl w g none) (.cells #[.int .i64 0, .int .i64 0, .int .i64 0, .int .i64 0, .int .i64 0, .slice none 0 0, .int .i64 0, .int .i64 0] 37)
 go_upto_region 1 with (fail)
 generalize w.alloc (.cells #[.int .i64 0, .int .i64 0, .int .i64 0, .int .i64 0, .int .i64 0, .slice none 0 0, .int .i64 0, .int .i64 0] 37) = W0 at hbz hi0 hb0 hk0 ⊢
 have HBZ := Aside0.mk hbz
 have HI0 := Aside0.mk hi0
 have HB0 := Aside0.mk hb0
 have HK0 := Aside0.mk hk0
 clear hbz hi0 hb0 hk0
 go_wp2_with fail
 refine (r37_Reader_peek.calls g s0_0 s0_1 s0_2 s0_3 s0_4 p0 p1 p2 p3 p4 w0 _ HI0.out HB0.out HP.out).mono ?_
 rintro e w1 ⟨rfl, hi1, hb1, hk1⟩
 have HBZ1 := Aside0.mk (hk1.blk HBZ.out (by have := HL.out; omega) (by simp))
 have HI1 := Aside0.mk hi1
 have HB1 := Aside0.mk hb1
 have HK1 := Aside0.mk (HK0.out.trans hk1 (.inl rfl))
 clear hi1 hb1 hk1
 go_wp2_with fail
 refine (r37_find.calls k p0 op _ HOP.out).mono ?_
 rintro e w2 ⟨rfl, hb2⟩
 have HX := Aside0.mk (show RRAt g w.heap.size w2.heap.size #[.int .i64 0, .int .i64 0, .int .i64 0, .int .i64 0, .int .i64 0, .slice none 0 0, .int .i64 0, .int .i64 0] s0_0 ⟨op, -1, -1, -1, 0, [], ⟨0, 0⟩⟩ (.slice none 0 0) p1 p2 p3 p4 w0 w (w2.alloc (.cells #[.int .i64 op, .int .i64 (-1), .int .i64 (-1), .int .i64 (-1), .int .i64 0, .slice none 0 0, .int .i64 0, .int .i64 0] 37)) from
  ⟨(HI1.out.below hb2).alloc _, below_alloc (below_step HB1.out hb2) _, keep_alloc (HK1.out.trans (KeepBut.of_below hb2 g none) (.inl rfl)) _, HB.out.size, HL.out, Nat.le_refl _, by have h1 := blk_lt (blk_below HBZ1.out hb2); exact h1, blk_alloc (blk_below HBZ1.out hb2) _, blk_new _ _, Kd.R_nil _ _ _ _ _⟩)
 clear hb2
 go_upto_if 12 with (fail)
 generalize w2.alloc (.cells #[.int .i64 op, .int .i64 (-1), .int .i64 (-1), .int .i64 (-1), .int .i64 0, .slice none 0 0, .int .i64 0, .int .i64 0] 37) = W3 at HX ⊢
 have z0 : W3.cell? ⟨w2.heap.size, 0, none⟩ = some (.int .i64 op) := HX.out.at1 0
 (try simp only [Act.put, List.setIfInBounds_toArray, List.set_cons_zero, List.set_cons_succ])
 go_cut [] (fun wc => Aside0 (RRAt g w.heap.size w2.heap.size #[.int .i64 0, .int .i64 0, .int .i64 0, .int .i64 0, .int .i64 0, .slice none 0 0, .int .i64 0, .int .i64 0] s0_0 ⟨op, -1, -1, -1, 0, [], ⟨0, 0⟩⟩ (.slice none 0 0) q1 q2 q3 q4 w0 w wc))
 case first =>
  have hq := HQ.out
  by_cases c12 : op = 0
  ·rw [if_pos c12] at hq
   have c12b0 : (op == 0) = true := beq_iff_eq.mpr c12
   clear c12
   (first | rw [c12b0] | (simp only [i64_w, i32_w]; rw [c12b0]) | skip)
   have HQ1 := Aside0.mk hq
   clear hq
   go_wp2_with fail
   refine (r37_Reader_fail.calls g s0_0 p1 p2 p3 p4 2 q1 q2 q3 q4 w0 _ HX.out.i HX.out.b HQ1.out).mono ?_
   rintro e w4 ⟨rfl, hi4, hb4, hk4⟩
   have HX4 := Aside0.mk (HX.out.call hi4 hb4 hk4)
   clear hi4 hb4 hk4
   go_wp2_with fail
   go_meet
   exact HX4
  ·rw [if_neg c12] at hq
   have c12b0 : (op == 0) = false := beq_eq_false_iff_ne.mpr c12
   clear c12
   (first | rw [c12b0] | (simp only [i64_w, i32_w]; rw [c12b0]) | skip)
   simp only [Option.some.injEq, Prod.mk.injEq] at hq
   obtain ⟨rfl, rfl, rfl, rfl⟩ := hq
   go_wp2_with fail
   go_meet
   exact HX
 case rest =>
  clear HX z0
  have HX := hcut
  clear hcut
  obtain ⟨A0, c0, hG, hg_, hS_⟩ := HX.out.i
  have hc1 := cellS71_1 hG
  have hf1 := blk_frozen hG 1
  have hX2 : RRAt g w.heap.size w2.heap.size #[.int .i64 0, .int .i64 0, .int .i64 0, .int .i64 0, .int .i64 0, .slice none 0 0, .int .i64 0, .int .i64 0] s0_0 ⟨op, -1, -1, -1, 0, [], ⟨0, 0⟩⟩ (.slice none 0 0) (wrap64 (q1 + 1)) q2 q3 q4 w0 w (wc.setCell ⟨g, 1, none⟩ (.int .i64 (wrap64 (q1 + 1)))) :=
   HX.out.call (HX.out.i.set_1 _) (below_set HX.out.b hg_) ((KeepBut.refl wc g none).set_ 1 _)
  clear hG hg_ hS_
  go_upto_region 5 with (fail)
  generalize wc.setCell ⟨g, 1, none⟩ (.int .i64 (wrap64 (q1 + 1))) = W4 at hX2 ⊢
  have HX2 := Aside0.mk hX2
  clear hX2 hc1 hf1 HX
  have z0 : W4.cell? ⟨w2.heap.size, 0, none⟩ = some (.int .i64 op) := HX2.out.at1 0
  go_wp2_with fail
  refine (r33_Pieces.calls op ps _ HPS.out).mono ?_
  rintro e w5 ⟨rfl, ⟨nd, rfl⟩⟩
  clear z0
  go_wp2
  go_loopg [5] ps.size (fun kq v5 w' => ∃ (x5 : Int) (x : S37) (v : Value) (s1 s2 s3 s4 : Int), v5 = .int .i64 x5 ∧ Aside0 (0 ≤ x5 ∧ x5 ≤ (ps.size : Int)) ∧ Aside0 (rrSteps k s0_0 (ps.data.toList.drop x5.toNat) (x, s1, s2, s3, s4) = some st) ∧ Aside0 (RRAt g w.heap.size w2.heap.size #[.int .i64 0, .int .i64 0, .int .i64 0, .int .i64 0, .int .i64 0, .slice none 0 0, .int .i64 0, .int .i64 0] s0_0 x v s1 s2 s3 s4 w0 w w') ∧ Aside0 (kq = ps.size - x5.toNat))
  case atStart => exact ⟨0, _, _, _, _, _, _, rfl, ⟨by omega⟩, ⟨HST.out⟩, ⟨HX2.out.below (pw_below_drewN (Below.refl _ _) nd)⟩, ⟨rfl⟩⟩
  case round =>
   clear HX2
   obtain ⟨x5, x, v, s1, s2, s3, s4, rfl, HPO, HRS, HX, HK⟩ := hrel
   by_cases hp : x5 < (ps.size : Int)
   ·obtain ⟨cn, ⟨x', t1, t2, t3, t4⟩, hbt, hs, hrest⟩ := rr_round k s0_0 ps _ _ x5 HPO.out.1 hp HRS.out
    have p22 : (0 ≤ x5) = True := eq_true HPO.out.1
    have q22 : (x5 < (ps.size : Int)) = True := eq_true hp
    have d22 : decide (x5 < (ps.size : Int)) = true := decide_eq_true hp
    have hx22 := bt_at ps x5
    have HX2 := Aside0.mk HX.out
    have HP2 := Aside0.mk hp
    have HS := Aside0.mk hs
    have HR2 := Aside0.mk hrest
    clear hp hs hrest HX HRS
    have HBT := Aside0.mk hbt
    clear hbt
    go_upto_block 1 with (fail)
    go_cut [] (fun wx => ∃ v', Aside0 (RRAt g w.heap.size w2.heap.size #[.int .i64 0, .int .i64 0, .int .i64 0, .int .i64 0, .int .i64 0, .slice none 0 0, .int .i64 0, .int .i64 0] s0_0 x' v' t1 t2 t3 t4 w0 w wx))
    case first =>
     have hbt := HBT.out
     have hs := HS.out
     simp only [rrStep] at hs
     by_cases k0 : cn = 100
     ·rw [if_pos k0] at hs
      have g0 : ((bt ps x5) == 100) = true := beq_iff_eq.mpr (by omega)
      clear hbt
      replace hs := Option.bind_eq_some_iff.mp hs
      obtain ⟨⟨y0, y1, y2, y3, y4⟩, hy, hs⟩ := hs
      have HZ := Aside0.mk hy
      simp only [Option.some.injEq, Prod.mk.injEq] at hs
      obtain ⟨rfl, rfl, rfl, rfl, rfl⟩ := hs
      clear hy
      clear k0
      go_wp2_with fail
      refine (r37_Reader_slot.calls k g s0_0 _ _ _ _ y0 _ _ _ _ w0 _ HX2.out.i HX2.out.b HZ.out).mono ?_
      rintro e w5 ⟨rfl, hi5, hb5, hk5⟩
      have HX5 := Aside0.mk (HX2.out.call hi5 hb5 hk5)
      clear hi5 hb5 hk5
      have c5 := HX5.out.at1 1
      have f5 := blk_frozen HX5.out.box 1
      simp only [instObj] at c5 f5
      go_wp2_with fail
      go_meet
      exact ⟨_, ⟨HX5.out.put _ 1 (.int .i64 y0) rfl rfl⟩⟩
     rw [if_neg k0] at hs
     have g0 : ((bt ps x5) == 100) = false := beq_eq_false_iff_ne.mpr (by omega)
     by_cases k1 : cn = 97
     ·rw [if_pos k1] at hs
      have g1 : ((bt ps x5) == 97) = true := beq_iff_eq.mpr (by omega)
      clear hbt
      have cz := HX2.out.at1 0
      simp only [instObj] at cz
      clear k1
      by_cases k21 : x.f0 = 21
      ·rw [if_pos k21] at hs
       have g21 : (x.f0 == 21) = true := beq_iff_eq.mpr k21
       replace hs := Option.bind_eq_some_iff.mp hs
       obtain ⟨⟨y0, y1, y2, y3, y4⟩, hy, hs⟩ := hs
       have HZ := Aside0.mk hy
       simp only [Option.some.injEq, Prod.mk.injEq] at hs
       obtain ⟨rfl, rfl, rfl, rfl, rfl⟩ := hs
       clear hy
       clear k21
       go_wp2_with fail
       refine (r37_Reader_index.calls k g s0_0 _ _ _ _ 102 31 12 y0 _ _ _ _ w0 _ HX2.out.i HX2.out.b HZ.out).mono ?_
       rintro e w5 ⟨rfl, hi5, hb5, hk5⟩
       have HX5 := Aside0.mk (HX2.out.call hi5 hb5 hk5)
       clear hi5 hb5 hk5
       have c5 := HX5.out.at1 2
       have f5 := blk_frozen HX5.out.box 2
       simp only [instObj] at c5 f5
       go_wp2_with fail
       go_meet
       exact ⟨_, ⟨HX5.out.put _ 2 (.int .i64 y0) rfl rfl⟩⟩
      ·rw [if_neg k21] at hs
       have g21 : (x.f0 == 21) = false := beq_eq_false_iff_ne.mpr k21
       replace hs := Option.bind_eq_some_iff.mp hs
       obtain ⟨⟨y0, y1, y2, y3, y4⟩, hy, hs⟩ := hs
       have HZ := Aside0.mk hy
       simp only [Option.some.injEq, Prod.mk.injEq] at hs
       obtain ⟨rfl, rfl, rfl, rfl, rfl⟩ := hs
       clear hy
       clear k21
       go_wp2_with fail
       refine (r37_Reader_slot.calls k g s0_0 _ _ _ _ y0 _ _ _ _ w0 _ HX2.out.i HX2.out.b HZ.out).mono ?_
       rintro e w5 ⟨rfl, hi5, hb5, hk5⟩
       have HX5 := Aside0.mk (HX2.out.call hi5 hb5 hk5)
       clear hi5 hb5 hk5
       have c5 := HX5.out.at1 2
       have f5 := blk_frozen HX5.out.box 2
       simp only [instObj] at c5 f5
       go_wp2_with fail
       go_meet
       exact ⟨_, ⟨HX5.out.put _ 2 (.int .i64 y0) rfl rfl⟩⟩
     rw [if_neg k1] at hs
     have g1 : ((bt ps x5) == 97) = false := beq_eq_false_iff_ne.mpr (by omega)
     by_cases k2 : cn = 98
     ·rw [if_pos k2] at hs
      have g2 : ((bt ps x5) == 98) = true := beq_iff_eq.mpr (by omega)
      clear hbt
      replace hs := Option.bind_eq_some_iff.mp hs
      obtain ⟨⟨y0, y1, y2, y3, y4⟩, hy, hs⟩ := hs
      have HZ := Aside0.mk hy
      simp only [Option.some.injEq, Prod.mk.injEq] at hs
      obtain ⟨rfl, rfl, rfl, rfl, rfl⟩ := hs
      clear hy
      clear k2
      go_wp2_with fail
      refine (r37_Reader_slot.calls k g s0_0 _ _ _ _ y0 _ _ _ _ w0 _ HX2.out.i HX2.out.b HZ.out).mono ?_
      rintro e w5 ⟨rfl, hi5, hb5, hk5⟩
      have HX5 := Aside0.mk (HX2.out.call hi5 hb5 hk5)
      clear hi5 hb5 hk5
      have c5 := HX5.out.at1 3
      have f5 := blk_frozen HX5.out.box 3
      simp only [instObj] at c5 f5
      go_wp2_with fail
      go_meet
      exact ⟨_, ⟨HX5.out.put _ 3 (.int .i64 y0) rfl rfl⟩⟩
     rw [if_neg k2] at hs
     have g2 : ((bt ps x5) == 98) = false := beq_eq_false_iff_ne.mpr (by omega)
     by_cases k3 : cn = 115
     ·rw [if_pos k3] at hs
      have g3 : ((bt ps x5) == 115) = true := beq_iff_eq.mpr (by omega)
      clear hbt
      replace hs := Option.bind_eq_some_iff.mp hs
      obtain ⟨⟨y0, y1, y2, y3, y4⟩, hy, hs⟩ := hs
      have HZ := Aside0.mk hy
      simp only [Option.some.injEq, Prod.mk.injEq] at hs
      obtain ⟨rfl, rfl, rfl, rfl, rfl⟩ := hs
      clear hy
      clear k3
      go_wp2_with fail
      refine (r37_Reader_number.calls k g s0_0 _ _ _ _ y0 _ _ _ _ w0 _ HX2.out.i HX2.out.b HZ.out).mono ?_
      rintro e w5 ⟨rfl, hi5, hb5, hk5⟩
      have HX5 := Aside0.mk (HX2.out.call hi5 hb5 hk5)
      clear hi5 hb5 hk5
      have c5 := HX5.out.at1 4
      have f5 := blk_frozen HX5.out.box 4
      simp only [instObj] at c5 f5
      go_wp2_with fail
      go_meet
      exact ⟨_, ⟨HX5.out.put _ 4 (.int .i64 y0) rfl rfl⟩⟩
     rw [if_neg k3] at hs
     have g3 : ((bt ps x5) == 115) = false := beq_eq_false_iff_ne.mpr (by omega)
     by_cases k4 : cn = 119
     ·rw [if_pos k4] at hs
      have g4 : ((bt ps x5) == 119) = true := beq_iff_eq.mpr (by omega)
      clear hbt
      replace hs := Option.bind_eq_some_iff.mp hs
      obtain ⟨⟨y0, y1, y2, y3, y4⟩, hy, hs⟩ := hs
      have HZ := Aside0.mk hy
      simp only [Option.some.injEq, Prod.mk.injEq] at hs
      obtain ⟨rfl, rfl, rfl, rfl, rfl⟩ := hs
      clear hy
      clear k4
      go_wp2_with fail
      refine (r37_Reader_number.calls k g s0_0 _ _ _ _ y0 _ _ _ _ w0 _ HX2.out.i HX2.out.b HZ.out).mono ?_
      rintro e w5 ⟨rfl, hi5, hb5, hk5⟩
      have HX5 := Aside0.mk (HX2.out.call hi5 hb5 hk5)
      clear hi5 hb5 hk5
      have c5 := HX5.out.at1 4
      have f5 := blk_frozen HX5.out.box 4
      simp only [instObj] at c5 f5
      go_wp2_with fail
      go_meet
      exact ⟨_, ⟨HX5.out.put _ 4 (.int .i64 y0) rfl rfl⟩⟩
     rw [if_neg k4] at hs
     have g4 : ((bt ps x5) == 119) = false := beq_eq_false_iff_ne.mpr (by omega)
     by_cases k5 : cn = 108
     ·rw [if_pos k5] at hs
      have g5 : ((bt ps x5) == 108) = true := beq_iff_eq.mpr (by omega)
      clear hbt
      replace hs := Option.bind_eq_some_iff.mp hs
      obtain ⟨⟨y0, y1, y2, y3, y4⟩, hy, hs⟩ := hs
      have HZ := Aside0.mk hy
      simp only [Option.some.injEq, Prod.mk.injEq] at hs
      obtain ⟨rfl, rfl, rfl, rfl, rfl⟩ := hs
      clear hy
      clear k5
      go_wp2_with fail
      refine (r37_Reader_list.calls k g s0_0 _ _ _ _ y0 _ _ _ _ w0 _ HX2.out.i HX2.out.b HZ.out).mono ?_
      rintro e w5 ⟨v5, rfl, hr5, hi5, hb5, hk5⟩
      obtain ⟨Ao, co, rfl⟩ := Kd.R_slice hr5
      have HR5 := Aside0.mk (Kd.R_lower hr5 (keep_size HX2.out.k))
      have HX5 := Aside0.mk (HX2.out.call hi5 hb5 hk5)
      clear hi5 hb5 hk5 hr5
      have c5 := HX5.out.at1 5
      have f5 := blk_frozen HX5.out.box 5
      simp only [instObj] at c5 f5
      go_wp2_with fail
      go_meet
      exact ⟨_, ⟨HX5.out.putL _ _ HR5.out⟩⟩
     rw [if_neg k5] at hs
     have g5 : ((bt ps x5) == 108) = false := beq_eq_false_iff_ne.mpr (by omega)
     by_cases k6 : cn = 111
     ·rw [if_pos k6] at hs
      have g6 : ((bt ps x5) == 111) = true := beq_iff_eq.mpr (by omega)
      clear hbt
      replace hs := Option.bind_eq_some_iff.mp hs
      obtain ⟨⟨y0, y1, y2, y3, y4⟩, hy, hs⟩ := hs
      have HZ := Aside0.mk hy
      simp only [Option.some.injEq, Prod.mk.injEq] at hs
      obtain ⟨rfl, rfl, rfl, rfl, rfl⟩ := hs
      clear hy
      clear k6
      go_wp2_with fail
      refine (r37_Reader_index.calls k g s0_0 _ _ _ _ 64 65535 7 y0 _ _ _ _ w0 _ HX2.out.i HX2.out.b HZ.out).mono ?_
      rintro e w5 ⟨rfl, hi5, hb5, hk5⟩
      have HX5 := Aside0.mk (HX2.out.call hi5 hb5 hk5)
      clear hi5 hb5 hk5
      have c5 := HX5.out.at1 6
      have f5 := blk_frozen HX5.out.box 6
      simp only [instObj] at c5 f5
      go_wp2_with fail
      go_meet
      exact ⟨_, ⟨HX5.out.put _ 6 (.int .i64 y0) rfl rfl⟩⟩
     rw [if_neg k6] at hs
     have g6 : ((bt ps x5) == 111) = false := beq_eq_false_iff_ne.mpr (by omega)
     by_cases k7 : cn = 116
     ·rw [if_pos k7] at hs
      have g7 : ((bt ps x5) == 116) = true := beq_iff_eq.mpr (by omega)
      clear hbt
      replace hs := Option.bind_eq_some_iff.mp hs
      obtain ⟨⟨y0, y1, y2, y3, y4⟩, hy, hs⟩ := hs
      have HZ := Aside0.mk hy
      replace hs := Option.bind_eq_some_iff.mp hs
      obtain ⟨⟨y_10, y_11, y_12, y_13, y_14⟩, hy_1, hs⟩ := hs
      have HZ_1 := Aside0.mk hy_1
      simp only [Option.some.injEq, Prod.mk.injEq] at hs
      obtain ⟨rfl, rfl, rfl, rfl, rfl⟩ := hs
      clear hy hy_1
      clear k7
      go_wp2_with fail
      refine (r37_Reader_index.calls k g s0_0 _ _ _ _ 64 65535 7 y0 _ _ _ _ w0 _ HX2.out.i HX2.out.b HZ.out).mono ?_
      rintro e w5 ⟨rfl, hi5, hb5, hk5⟩
      have HX5 := Aside0.mk (HX2.out.call hi5 hb5 hk5)
      clear hi5 hb5 hk5
      have c5 := HX5.out.at1 6
      have f5 := blk_frozen HX5.out.box 6
      simp only [instObj] at c5 f5
      go_upto_region 27 with (fail)
      have HX6 := Aside0.mk (HX5.out.put ⟨x.f0, x.f1, x.f2, x.f3, x.f4, x.f5, ⟨y0, x.f6.f1⟩⟩ 6 (.int .i64 y0) rfl rfl)
      generalize w5.setCell ⟨w2.heap.size, 6, none⟩ (.int .i64 y0) = w6 at HX6 ⊢
      clear c5 f5 HX5
      go_wp2_with fail
      refine (r37_Reader_index.calls k g s0_0 _ _ _ _ 64 65535 7 y_10 _ _ _ _ w0 _ HX6.out.i HX6.out.b HZ_1.out).mono ?_
      rintro e w5_1 ⟨rfl, hi5, hb5, hk5⟩
      have HX5_1 := Aside0.mk (HX6.out.call hi5 hb5 hk5)
      clear hi5 hb5 hk5
      have c5 := HX5_1.out.at1 7
      have f5 := blk_frozen HX5_1.out.box 7
      simp only [instObj] at c5 f5
      go_wp2_with fail
      go_meet
      exact ⟨_, ⟨HX5_1.out.put _ 7 (.int .i64 y_10) rfl rfl⟩⟩
     rw [if_neg k7] at hs
     have g7 : ((bt ps x5) == 116) = false := beq_eq_false_iff_ne.mpr (by omega)
     replace hs : (x, s1, s2, s3, s4) = (x', t1, t2, t3, t4) := Option.some.inj hs
     simp only [Prod.mk.injEq] at hs
     obtain ⟨rfl, rfl, rfl, rfl, rfl⟩ := hs
     clear k0 k1 k2 k3 k4 k5 k6 k7 hbt
     go_wp2_with fail
     go_meet
     exact ⟨_, HX2⟩
    case rest =>
     obtain ⟨v', HX5⟩ := hcut
     clear HX2
     go_wp2_with fail
     go_roundg (ps.size - (x5 + 1).toNat)
     case measure => have := HK.out; have := HP2.out; have := HPO.out; omega
     case rel => exact ⟨x5 + 1, _, _, _, _, _, _, by rw [show wrap64 (x5 + 1) = x5 + 1 from w64 (by have := HPO.out; omega) (by have := HP2.out; have := HG.out; omega)], ⟨by have := HP2.out; have := HPO.out; omega⟩, ⟨HR2.out⟩, ⟨HX5.out⟩, ⟨rfl⟩⟩
   ·have hd : ps.data.toList.drop x5.toNat = [] := List.drop_eq_nil_of_le (by rw [← size_data]; have := HPO.out; omega)
    have d22 : decide (x5 < (ps.size : Int)) = false := decide_eq_false hp
    have hr := HRS.out
    rw [hd] at hr
    obtain rfl := Option.some.inj hr
    clear hd hr hp HRS
    obtain ⟨Ao, co, rfl⟩ := Kd.R_slice HX.out.row
    have c_0 := HX.out.at1 0
    have f_0 := blk_frozen HX.out.box 0
    have d_0 := blk_cell HX.out.zero 0
    have e_0 := blk_frozen HX.out.zero 0
    have c_1 := HX.out.at1 1
    have f_1 := blk_frozen HX.out.box 1
    have d_1 := blk_cell HX.out.zero 1
    have e_1 := blk_frozen HX.out.zero 1
    have c_2 := HX.out.at1 2
    have f_2 := blk_frozen HX.out.box 2
    have d_2 := blk_cell HX.out.zero 2
    have e_2 := blk_frozen HX.out.zero 2
    have c_3 := HX.out.at1 3
    have f_3 := blk_frozen HX.out.box 3
    have d_3 := blk_cell HX.out.zero 3
    have e_3 := blk_frozen HX.out.zero 3
    have c_4 := HX.out.at1 4
    have f_4 := blk_frozen HX.out.box 4
    have d_4 := blk_cell HX.out.zero 4
    have e_4 := blk_frozen HX.out.zero 4
    have c_5 := HX.out.at1 5
    have f_5 := blk_frozen HX.out.box 5
    have d_5 := blk_cell HX.out.zero 5
    have e_5 := blk_frozen HX.out.zero 5
    have c_6 := HX.out.at1 6
    have f_6 := blk_frozen HX.out.box 6
    have d_6 := blk_cell HX.out.zero 6
    have e_6 := blk_frozen HX.out.zero 6
    have c_7 := HX.out.at1 7
    have f_7 := blk_frozen HX.out.box 7
    have d_7 := blk_cell HX.out.zero 7
    have e_7 := blk_frozen HX.out.zero 7
    have HE := Aside0.mk (((((((((HX.out.setz 0 (.int .i64 x.f0)).setz 1 (.int .i64 x.f1)).setz 2 (.int .i64 x.f2)).setz 3 (.int .i64 x.f3)).setz 4 (.int .i64 x.f4)).setz 5 (.slice Ao x.f5.length co)).setz 6 (.int .i64 x.f6.f0)).setz 7 (.int .i64 x.f6.f1)))
    have hne : w.heap.size ≠ w2.heap.size := by have := HX.out.lt; omega
    have hne' : w2.heap.size ≠ w.heap.size := by have := HX.out.lt; omega
    simp only [instObj] at c_0 c_1 c_2 c_3 c_4 c_5 c_6 c_7
    have HOO := HO
    clear HX
    go_wp2
    have ho := HOO.out
    unfold rrOut at ho
    simp only [Prod.mk.injEq] at ho
    obtain ⟨rfl, rfl, rfl, rfl, rfl, rfl, rfl, rfl, rfl, rfl, rfl, rfl⟩ := ho
    refine bodyPost_ret (results_cell_row rfl _ _ w.heap.size 37 #[.int .i64 x.f0, .int .i64 x.f1, .int .i64 x.f2, .int .i64 x.f3, .int .i64 x.f4, .slice Ao x.f5.length co, .int .i64 x.f6.f0, .int .i64 x.f6.f1] (0, 0) _ rfl HE.out.zero Try.underlying37 rfl (by kernel_rfl)) rfl ?_
    exact ⟨_, rfl, HE.out.row, HE.out.i, HE.out.b, HE.out.k⟩
end Go.Proofs.Ytkgjbdbhpohkiaa.PLi
end
-- from YtkgjbdbhpohkiaaHRRBody
section
namespace Go.Proofs.Ytkgjbdbhpohkiaa.PLi
open Go.RowKit Go.Proofs.YtkgjbdbhpohkiaaW.PrintWords Go.Proofs.YtkgjbdbhpohkiaaW.PrintLast Go.Proofs.YtkgjbdbhpohkiaaW.PrintMore Go.Proofs.Ytkgjbdbhpohkiaa.Str
set_option linter.unusedVariables false
set_option linter.unusedSimpArgs false
def rcLoop : Nat → List (S84) → List (S37) → Int → Int → Int → Int → Option (List (S37) × Int × Int × Int × Int)
 | 0, _, _, _, _, _, _ => none
 | k + 1, tl, acc, s1, s2, s3, s4 => if s3 = 0 then (r37_Reader_peek.f tl s1 s2 s3 s4).bind fun p => if p.1.toList = ([125] : List UInt8) then some (acc, p.2.1, p.2.2.1, p.2.2.2.1, p.2.2.2.2) else
   (r37_Reader_inst.f k tl p.2.1 p.2.2.1 p.2.2.2.1 p.2.2.2.2).bind fun x => if acc.length < 1000000000000 then rcLoop k tl (acc ++ [⟨x.1, x.2.1, x.2.2.1, x.2.2.2.1, x.2.2.2.2.1, x.2.2.2.2.2.1, ⟨x.2.2.2.2.2.2.1, x.2.2.2.2.2.2.2.1⟩⟩]) x.2.2.2.2.2.2.2.2.1 x.2.2.2.2.2.2.2.2.2.1 x.2.2.2.2.2.2.2.2.2.2.1 x.2.2.2.2.2.2.2.2.2.2.2 else none
  else some (acc, s1, s2, s3, s4)
def r37_Reader_body.f (k : Nat) (tl : List (S84)) (s1 s2 s3 s4 : Int) : Option (List Int × Int × List (S37) × Int × Int × Int × Int) :=
 (r37_Reader_want.f tl s1 s2 s3 s4 (⟨#[98, 111, 100, 121]⟩ : ByteArray)).bind fun a => (r37_Reader_list.f k tl a.1 a.2.1 a.2.2.1 a.2.2.2).bind fun l => (r37_Reader_peek.f tl l.2.1 l.2.2.1 l.2.2.2.1 l.2.2.2.2).bind fun p => (r01_Index.f k p.1 4096).bind fun n =>
  (if n.2 = 0 then some (p.2.1, p.2.2.1, p.2.2.2.1, p.2.2.2.2) else r37_Reader_fail.f tl p.2.1 p.2.2.1 p.2.2.2.1 p.2.2.2.2 n.2).bind fun q => (r37_Reader_want.f tl (wrap64 (q.1 + 1)) q.2.1 q.2.2.1 q.2.2.2 (⟨#[123]⟩ : ByteArray)).bind fun o =>
   (rcLoop k tl [] o.1 o.2.1 o.2.2.1 o.2.2.2).bind fun c => (r37_Reader_want.f tl c.2.1 c.2.2.1 c.2.2.2.1 c.2.2.2.2 (⟨#[125]⟩ : ByteArray)).bind fun e => some (l.1, n.1, c.1, e.1, e.2.1, e.2.2.1, e.2.2.2)
structure RCAt (g b2 b3 : Nat) (z : Array Value) (tl : List (S84)) (ps : List Int) (v0 : Value) (sz : Int) (co : List (S37)) (v2 : Value) (s1 s2 s3 s4 : Int) (w0 w w' : World) : Prop where
 i : IsS71 w0 w' g tl s1 s2 s3 s4
 b : Below w0.heap.size w0 w'
 k : KeepBut w w' g none
 wb : w0.heap.size ≤ w.heap.size
 gl : g < w.heap.size
 ge : w.heap.size ≤ b2
 lt : b2 < b3
 zero : w'.heap[b2]? = some (.cells z 33 (0, 0))
 box : w'.heap[b3]? = some (.cells #[v0, .int .i64 sz, v2] 33 (0, 0))
 r0 : Kd.R (Kd.int .i64) 3 w' w.heap.size (fun _ => True) v0 ps
 r2 : Kd.R k37 37 w' w.heap.size (fun _ => True) v2 co
section
variable {g b2 b3 : Nat} {z : Array Value} {tl : List (S84)} {ps : List Int} {v0 v2 : Value} {sz : Int} {co : List (S37)} {s1 s2 s3 s4 r1 r2 r3 r4 : Int} {w0 w w1 w2 : World}
theorem rc_keep {α : Type} {d : Kd α} {e base t : Nat} {cells : Array Value} {v : Value} {xs : List α} (hr : d.R e w1 base (fun _ => True) v xs) (hG : w1.heap[g]? = some (.cells cells t (0, 0))) (ht : ∀ q, q ∈ e :: d.E → q ≠ t) (hk : KeepBut w1 w2 g none) : d.R e w2 base (fun _ => True) v xs :=
 Kd.R_mono (Kd.R_step (Kd.R_types hr hG ht) (fun k ho hlt => hk.2 k hlt ho.2 (by simp))) (fun _ _ => trivial)
theorem RCAt.call (h : RCAt g b2 b3 z tl ps v0 sz co v2 s1 s2 s3 s4 w0 w w1) (hi : IsS71 w0 w2 g tl r1 r2 r3 r4) (hb : Below w0.heap.size w0 w2) (hk : KeepBut w1 w2 g none) : RCAt g b2 b3 z tl ps v0 sz co v2 r1 r2 r3 r4 w0 w w2 := by
 obtain ⟨A0, c0, hG, -, -⟩ := h.i
 have h1 := h.gl
 have h2 := h.ge
 have h3 := h.lt
 exact ⟨hi, hb, h.k.trans hk (.inl rfl), h.wb, h.gl, h.ge, h.lt, hk.blk h.zero (by omega) (by simp), hk.blk h.box (by omega) (by simp), rc_keep h.r0 hG (by decide) hk, rc_keep h.r2 hG (by decide) hk⟩
theorem RCAt.below (h : RCAt g b2 b3 z tl ps v0 sz co v2 s1 s2 s3 s4 w0 w w1) (hb : Below w1.heap.size w1 w2) : RCAt g b2 b3 z tl ps v0 sz co v2 s1 s2 s3 s4 w0 w w2 :=
 ⟨h.i.below hb, below_step h.b hb, h.k.trans (KeepBut.of_below hb g none) (.inl rfl), h.wb, h.gl, h.ge, h.lt, blk_below h.zero hb, blk_below h.box hb, Kd.R_below h.r0 hb, Kd.R_below h.r2 hb⟩
theorem RCAt.put (h : RCAt g b2 b3 z tl ps v0 sz co v2 s1 s2 s3 s4 w0 w w1) (n : Int) : RCAt g b2 b3 z tl ps v0 n co v2 s1 s2 s3 s4 w0 w (w1.setCell ⟨b3, 1, none⟩ (.int .i64 n)) := by
 have h1 := h.gl
 have h2 := h.ge
 have h3 := h.lt
 have h4 := h.wb
 exact ⟨h.i.far (by show g ≠ b3; omega) _, below_set h.b (by show _ ≤ b3; omega), keep_far h.k (by show _ ≤ b3; omega) _, h.wb, h.gl, h.ge, h.lt, (Below.heap_setCell w1 ⟨b3, 1, none⟩ _ _ (by show b2 ≠ b3; omega)).trans h.zero, blk_put h.box 1 _ rfl,
  Kd.R_set h.r0 h.box (by decide) 1 _, Kd.R_set h.r2 h.box (by decide) 1 _⟩
theorem RCAt.put0 (h : RCAt g b2 b3 z tl ps v0 sz co v2 s1 s2 s3 s4 w0 w w1) (l : List Int) (u : Value) (hu : Kd.R (Kd.int .i64) 3 w1 w.heap.size (fun _ => True) u l) : RCAt g b2 b3 z tl l u sz co v2 s1 s2 s3 s4 w0 w (w1.setCell ⟨b3, 0, none⟩ u) := by
 have h1 := h.gl
 have h2 := h.ge
 have h3 := h.lt
 have h4 := h.wb
 exact ⟨h.i.far (by show g ≠ b3; omega) _, below_set h.b (by show _ ≤ b3; omega), keep_far h.k (by show _ ≤ b3; omega) _, h.wb, h.gl, h.ge, h.lt, (Below.heap_setCell w1 ⟨b3, 0, none⟩ _ _ (by show b2 ≠ b3; omega)).trans h.zero, blk_put h.box 0 _ rfl,
  Kd.R_set hu h.box (by decide) 0 _, Kd.R_set h.r2 h.box (by decide) 0 _⟩
theorem RCAt.setz (h : RCAt g b2 b3 z tl ps v0 sz co v2 s1 s2 s3 s4 w0 w w1) (j : Nat) (u : Value) : RCAt g b2 b3 (z.setIfInBounds j u) tl ps v0 sz co v2 s1 s2 s3 s4 w0 w (w1.setCell ⟨b2, j, none⟩ u) := by
 have h1 := h.gl
 have h2 := h.ge
 have h3 := h.lt
 have h4 := h.wb
 exact ⟨h.i.far (by show g ≠ b2; omega) u, below_set h.b (by show _ ≤ b2; omega), keep_far h.k (by show _ ≤ b2; omega) u, h.wb, h.gl, h.ge, h.lt, blk_put h.zero j u rfl, (Below.heap_setCell w1 ⟨b2, j, none⟩ u _ (by show b3 ≠ b2; omega)).trans h.box,
  Kd.R_set h.r0 h.zero (by decide) j u, Kd.R_set h.r2 h.zero (by decide) j u⟩
theorem RCAt.app (h : RCAt g b2 b3 z tl ps v0 sz co v2 s1 s2 s3 s4 w0 w w1) {co' : List (S37)} {v1 : Value} (hr : Kd.R k37 37 w2 w.heap.size (fun _ => True) v1 co') (hg : w1.grownBy w2 v2.ownBlock) : RCAt g b2 b3 z tl ps v0 sz co' v1 s1 s2 s3 s4 w0 w (w2.setCell ⟨b3, 2, none⟩ v1) := by
 have h1 := h.gl
 have h2 := h.ge
 have h3 := h.lt
 have h4 := h.wb
 obtain ⟨A0, c0, hG, -, -⟩ := h.i
 have ng : some g ≠ v2.ownBlock := Kd.R_ne h.r2 hG (by decide)
 have hz := (hg.block b2 (blk_lt h.zero) (Kd.R_ne h.r2 h.zero (by decide))).trans h.zero
 have hx := (hg.block b3 (blk_lt h.box) (Kd.R_ne h.r2 h.box (by decide))).trans h.box
 have hb : Below w0.heap.size w0 w2 := pw_below_grown h.b v2.ownBlock (Nat.le_trans h.wb (keep_size h.k)) hg (fun k e => Nat.le_trans h.wb (Kd.R_base h.r2 k e))
 have hr0 : Kd.R (Kd.int .i64) 3 w2 w.heap.size (fun _ => True) v0 ps := Kd.R_mono (Kd.R_step (Kd.R_apart' h.r0 (Kd.R_typed h.r2) (by decide)) (fun k ho hlt => hg.block k hlt ho.2)) (fun _ _ => trivial)
 exact ⟨(h.i.grown hg ng).far (by show g ≠ b3; omega) _, below_set hb (by show _ ≤ b3; omega), keep_far (h.k.trans (KeepBut.of_grown hg g) ((Kd.R_base2 h.r2).imp (fun e => e) (fun e => e))) (by show _ ≤ b3; omega) _, h.wb, h.gl, h.ge, h.lt, (Below.heap_setCell w2 ⟨b3, 2, none⟩ _ _ (by show b2 ≠ b3; omega)).trans hz, blk_put hx 2 _ rfl,
  Kd.R_set hr0 hx (by decide) 2 _, Kd.R_set hr hx (by decide) 2 _⟩
end
set_option maxHeartbeats 8000000 in
set_option maxRecDepth 100000 in
theorem r37_Reader_body.calls (k : Nat) (g : Nat) (s0_0 : List (S84)) (s0_1 s0_2 s0_3 s0_4 : Int) (r1 : List Int) (r2 : Int) (r3 : List (S37)) (r4 r5 r6 r7 : Int) (w0 w : World) (hI : IsS71 w0 w g s0_0 s0_1 s0_2 s0_3 s0_4) (hB : Below w0.heap.size w0 w) (h : r37_Reader_body.f k s0_0 s0_1 s0_2 s0_3 s0_4 = some (r1, r2, r3, r4, r5, r6, r7)) :
  Calls Try.prog 40 #[.pointer (some ⟨g, 0, none⟩)] w fun e w' => ∃ v0_ v2_ : Value, e = .returned (.agg #[v0_, .int .i64 r2, v2_]) ∧ Kd.R (Kd.int .i64) 3 w' w.heap.size (fun _ => True) v0_ r1 ∧ Kd.R k37 37 w' w.heap.size (fun _ => True) v2_ r3 ∧ IsS71 w0 w' g s0_0 r4 r5 r6 r7 ∧ Below w0.heap.size w0 w' ∧ KeepBut w w' g none := by
 have hu33 := Try.underlying33
 have hu37 := Try.underlying37
 unfold r37_Reader_body.f at h
 replace h := Option.bind_eq_some_iff.mp h
 obtain ⟨⟨a1, a2, a3, a4⟩, ha, h⟩ := h
 replace h := Option.bind_eq_some_iff.mp h
 obtain ⟨⟨ls, l1, l2, l3, l4⟩, hl, h⟩ := h
 replace h := Option.bind_eq_some_iff.mp h
 obtain ⟨⟨p0, p1, p2, p3, p4⟩, hp, h⟩ := h
 replace h := Option.bind_eq_some_iff.mp h
 obtain ⟨⟨n, nc⟩, hn, h⟩ := h
 replace h := Option.bind_eq_some_iff.mp h
 obtain ⟨⟨q1, q2, q3, q4⟩, hq, h⟩ := h
 replace h := Option.bind_eq_some_iff.mp h
 obtain ⟨⟨o1, o2, o3, o4⟩, ho, h⟩ := h
 replace h := Option.bind_eq_some_iff.mp h
 obtain ⟨⟨cs, c1, c2, c3, c4⟩, hc, h⟩ := h
 replace h := Option.bind_eq_some_iff.mp h
 obtain ⟨⟨e1, e2, e3, e4⟩, he, h⟩ := h
 simp only [Option.some.injEq, Prod.mk.injEq] at h
 obtain ⟨rfl, rfl, rfl, rfl, rfl, rfl, rfl⟩ := h
 have HA := Aside0.mk ha
 have HLS := Aside0.mk hl
 have HP := Aside0.mk hp
 have HN := Aside0.mk hn
 have HQ := Aside0.mk hq
 have HO := Aside0.mk ho
 have HC := Aside0.mk hc
 have HE := Aside0.mk he
 have HI := Aside0.mk hI
 have HB := Aside0.mk hB
 have HL := Aside0.mk hI.lt
 clear ha hl hp hn hq ho hc he hI hB
 go_enter Try.func40, Try.ntmps40
 have hbz := blk_new w (.cells #[.slice none 0 0, .int .i64 0, .slice none 0 0] 33)
 have hi0 := HI.out.alloc (.cells #[.slice none 0 0, .int .i64 0, .slice none 0 0] 33)
 have hb0 := below_alloc HB.out (.cells #[.slice none 0 0, .int .i64 0, .slice none 0 0] 33)
 have hk0 := keep_alloc (g := g) (KeepBut.refl w g none) (.cells #[.slice none 0 0, .int .i64 0, .slice none 0 0] 33)
 go_upto_region 1 with (fail)
 generalize w.alloc (.cells #[.slice none 0 0, .int .i64 0, .slice none 0 0] 33) = W0 at hbz hi0 hb0 hk0 ⊢
 have HBZ := Aside0.mk hbz
 have HI0 := Aside0.mk hi0
 have HB0 := Aside0.mk hb0
 have HK0 := Aside0.mk hk0
 clear hbz hi0 hb0 hk0
 go_wp2_with fail
 refine (r37_Reader_want.calls g s0_0 s0_1 s0_2 s0_3 s0_4 (⟨#[98, 111, 100, 121]⟩ : ByteArray) a1 a2 a3 a4 w0 _ HI0.out HB0.out HA.out).mono ?_
 rintro e w1 ⟨rfl, hi1, hb1, hk1⟩
 have HBZ1 := Aside0.mk (hk1.blk HBZ.out (by have := HL.out; omega) (by simp))
 have HI1 := Aside0.mk hi1
 have HB1 := Aside0.mk hb1
 have HK1 := Aside0.mk (HK0.out.trans hk1 (.inl rfl))
 clear hi1 hb1 hk1
 have HX0 := Aside0.mk (show RCAt g w.heap.size w1.heap.size #[.slice none 0 0, .int .i64 0, .slice none 0 0] s0_0 [] (.slice none 0 0) 0 [] (.slice none 0 0) a1 a2 a3 a4 w0 w (w1.alloc (.cells #[.slice none 0 0, .int .i64 0, .slice none 0 0] 33)) from
  ⟨HI1.out.alloc _, below_alloc HB1.out _, keep_alloc HK1.out _, HB.out.size, HL.out, Nat.le_refl _, blk_lt HBZ1.out, blk_alloc HBZ1.out _, blk_new _ _, Kd.R_nil _ _ _ _ _, Kd.R_nil _ _ _ _ _⟩)
 go_upto_region 3 with (fail)
 generalize hw2 : w1 = w2 at *
 generalize w2.alloc (.cells #[.slice none 0 0, .int .i64 0, .slice none 0 0] 33) = W2 at HX0 ⊢
 clear hw2
 go_wp2_with fail
 refine (r37_Reader_list.calls k g s0_0 a1 a2 a3 a4 ls l1 l2 l3 l4 w0 _ HX0.out.i HX0.out.b HLS.out).mono ?_
 rintro e w3 ⟨v0, rfl, hr2, hi2, hb2, hk2⟩
 obtain ⟨A0, c0, rfl⟩ := Kd.R_slice hr2
 have HX1 := Aside0.mk (HX0.out.call hi2 hb2 hk2)
 have c1_ := blk_cell HX1.out.box 0
 have f1_ := blk_frozen HX1.out.box 0
 have HX := Aside0.mk (HX1.out.put0 ls (.slice A0 ls.length c0) (Kd.R_lower hr2 (keep_size HX0.out.k)))
 clear hr2 hi2 hb2 hk2 HX0
 go_upto_region 4 with (fail)
 generalize w3.setCell ⟨w2.heap.size, 0, none⟩ (.slice A0 ls.length c0) = W3 at HX ⊢
 clear c1_ f1_ HX1
 go_wp2_with fail
 refine (r37_Reader_peek.calls g s0_0 l1 l2 l3 l4 p0 p1 p2 p3 p4 w0 _ HX.out.i HX.out.b HP.out).mono ?_
 rintro e w4 ⟨rfl, hi4, hb4, hk4⟩
 have HX4 := Aside0.mk (HX.out.call hi4 hb4 hk4)
 clear hi4 hb4 hk4 HX
 go_wp2_with fail
 refine (r01_Index.calls k p0 4096 n nc _ HN.out).mono ?_
 rintro e w5 ⟨rfl, ⟨nd, rfl⟩⟩
 have HX5 := Aside0.mk (HX4.out.below (pw_below_drewN (Below.refl _ _) nd))
 clear HX4
 go_upto_if 20 with (fail)
 (try simp only [Act.put, List.setIfInBounds_toArray, List.set_cons_zero, List.set_cons_succ])
 generalize w4.drewN nd = w5 at HX5 ⊢
 go_cut [] (fun wc => Aside0 (RCAt g w.heap.size w2.heap.size #[.slice none 0 0, .int .i64 0, .slice none 0 0] s0_0 ls (.slice A0 ls.length c0) 0 [] (.slice none 0 0) q1 q2 q3 q4 w0 w wc))
 case first =>
  have hq := HQ.out
  by_cases c12 : nc = 0
  ·rw [if_pos c12] at hq
   have c12b0 : (nc == 0) = true := beq_iff_eq.mpr c12
   have c12b1 : (nc != 0) = false := bne_eq_false_iff_eq.mpr c12
   clear c12
   (first | rw [c12b1] | (simp only [i64_w, i32_w]; rw [c12b1]) | skip)
   simp only [Option.some.injEq, Prod.mk.injEq] at hq
   obtain ⟨rfl, rfl, rfl, rfl⟩ := hq
   go_wp2_with fail
   go_meet
   exact HX5
  ·rw [if_neg c12] at hq
   have c12b0 : (nc == 0) = false := beq_eq_false_iff_ne.mpr c12
   have c12b1 : (nc != 0) = true := bne_iff_ne.mpr c12
   clear c12
   (first | rw [c12b1] | (simp only [i64_w, i32_w]; rw [c12b1]) | skip)
   have HQ1 := Aside0.mk hq
   clear hq
   go_wp2_with fail
   refine (r37_Reader_fail.calls g s0_0 p1 p2 p3 p4 nc q1 q2 q3 q4 w0 _ HX5.out.i HX5.out.b HQ1.out).mono ?_
   rintro e w6 ⟨rfl, hi4, hb4, hk4⟩
   have HX6 := Aside0.mk (HX5.out.call hi4 hb4 hk4)
   clear hi4 hb4 hk4
   go_wp2_with fail
   go_meet
   exact HX6
 case rest =>
  clear HX5
  have HX := hcut
  clear hcut
  have c1_ := blk_cell HX.out.box 1
  have f1_ := blk_frozen HX.out.box 1
  have HX1 := Aside0.mk (HX.out.put n)
  go_upto_region 8 with (fail)
  generalize wc.setCell ⟨w2.heap.size, 1, none⟩ (.int .i64 n) = W4 at HX1 ⊢
  clear c1_ f1_ HX
  obtain ⟨A1, c1_, hG, hg_, hS_⟩ := HX1.out.i
  have hc1 := cellS71_1 hG
  have hf1 := blk_frozen hG 1
  have HX2 := Aside0.mk (HX1.out.call (HX1.out.i.set_1 (wrap64 (q1 + 1))) (below_set HX1.out.b hg_) ((KeepBut.refl W4 g none).set_ 1 _))
  clear hG hg_ hS_
  go_upto_region 9 with (fail)
  generalize W4.setCell ⟨g, 1, none⟩ (.int .i64 (wrap64 (q1 + 1))) = W5 at HX2 ⊢
  clear hc1 hf1 HX1
  go_wp2_with fail
  refine (r37_Reader_want.calls g s0_0 _ _ _ _ (⟨#[123]⟩ : ByteArray) o1 o2 o3 o4 w0 _ HX2.out.i HX2.out.b HO.out).mono ?_
  rintro e w7 ⟨rfl, hi4, hb4, hk4⟩
  have HX7 := Aside0.mk (HX2.out.call hi4 hb4 hk4)
  clear hi4 hb4 hk4 HX2
  go_wp2
  (try simp only [Act.put, List.setIfInBounds_toArray, List.set_cons_zero, List.set_cons_succ])
  go_loopg [] k (fun kq w' => ∃ (acc : List (S37)) (v2 : Value) (t1 t2 t3 t4 : Int), Aside0 (rcLoop kq s0_0 acc t1 t2 t3 t4 = some (cs, c1, c2, c3, c4)) ∧ Aside0 (kq ≤ k) ∧ Aside0 (RCAt g w.heap.size w2.heap.size #[.slice none 0 0, .int .i64 0, .slice none 0 0] s0_0 ls (.slice A0 ls.length c0) n acc v2 t1 t2 t3 t4 w0 w w'))
  case atStart => exact ⟨_, _, _, _, _, _, ⟨HC.out⟩, ⟨Nat.le_refl _⟩, ⟨HX7.out⟩⟩
  case round =>
   clear HX7
   obtain ⟨acc, v2, t1, t2, t3, t4, HLO, HKQ, HX⟩ := hrel
   obtain ⟨A2, c2_, e2_⟩ := Kd.R_slice HX.out.r2
   subst e2_
   obtain ⟨A1, c1_, hG, hg_, hS_⟩ := HX.out.i
   have hc3 := cellS71_3 hG
   clear hG hg_ hS_
   cases gk with
   | zero => exact absurd HLO.out (by simp [rcLoop])
   | succ k1 =>
    have hl := HLO.out
    simp only [rcLoop] at hl
    by_cases c3z : t3 = 0
    ·rw [if_pos c3z] at hl
     have c3b : (t3 == 0) = true := beq_iff_eq.mpr c3z
     clear c3z
     replace hl := Option.bind_eq_some_iff.mp hl
     obtain ⟨⟨p0', p1', p2', p3', p4'⟩, hp, hl⟩ := hl
     by_cases hend : p0'.toList = ([125] : List UInt8)
     ·rw [if_pos hend] at hl
      have hb8 : (p0'.toList == ([125] : List UInt8)) = true := by simpa using hend
      have hb9 : (p0'.toList != ([125] : List UInt8)) = false := by simpa using hend
      have hd8 : decide (p0'.toList = ([125] : List UInt8)) = true := decide_eq_true hend
      simp only [Option.some.injEq, Prod.mk.injEq] at hl
      obtain ⟨rfl, rfl, rfl, rfl, rfl⟩ := hl
      have HP' := Aside0.mk hp
      clear hp hend
      go_wp2_with fail
      refine (r37_Reader_peek.calls g s0_0 t1 t2 t3 t4 _ _ _ _ _ w0 _ HX.out.i HX.out.b HP'.out).mono ?_
      rintro e w8 ⟨rfl, hi4, hb4, hk4⟩
      have HX8 := Aside0.mk (HX.out.call hi4 hb4 hk4)
      clear hi4 hb4 hk4 hc3
      go_wp2_with fail
      refine (r37_Reader_want.calls g s0_0 _ _ _ _ (⟨#[125]⟩ : ByteArray) _ _ _ _ w0 _ HX8.out.i HX8.out.b HE.out).mono ?_
      rintro e w9 ⟨rfl, hi4, hb4, hk4⟩
      have HX9 := Aside0.mk (HX8.out.call hi4 hb4 hk4)
      clear hi4 hb4 hk4
      have c_0 := blk_cell HX9.out.box 0
      have c_1 := blk_cell HX9.out.box 1
      have c_2 := blk_cell HX9.out.box 2
      have d_0 := blk_cell HX9.out.zero 0
      have d_1 := blk_cell HX9.out.zero 1
      have d_2 := blk_cell HX9.out.zero 2
      have f_0 := blk_frozen HX9.out.box 0
      have f_1 := blk_frozen HX9.out.box 1
      have f_2 := blk_frozen HX9.out.box 2
      have e_0 := blk_frozen HX9.out.zero 0
      have e_1 := blk_frozen HX9.out.zero 1
      have e_2 := blk_frozen HX9.out.zero 2
      have HF := Aside0.mk (((HX9.out.setz 0 (.slice A0 ls.length c0)).setz 1 (.int .i64 n)).setz 2 (.slice A2 acc.length c2_))
      have hne : w.heap.size ≠ w2.heap.size := by have := HX9.out.lt; omega
      have hne' : w2.heap.size ≠ w.heap.size := by have := HX9.out.lt; omega
      clear HX9 HX8 HX
      go_wp2
      refine bodyPost_ret (results_cell_row rfl _ _ w.heap.size 33 #[.slice A0 ls.length c0, .int .i64 n, .slice A2 acc.length c2_] (0, 0) _ rfl HF.out.zero Try.underlying33 rfl (by kernel_rfl)) rfl ?_
      exact ⟨_, _, rfl, HF.out.r0, HF.out.r2, HF.out.i, HF.out.b, HF.out.k⟩
     ·rw [if_neg hend] at hl
      have hb8 : (p0'.toList == ([125] : List UInt8)) = false := by simpa using hend
      have hb9 : (p0'.toList != ([125] : List UInt8)) = true := by simpa using hend
      have hd8 : decide (p0'.toList = ([125] : List UInt8)) = false := decide_eq_false hend
      replace hl := Option.bind_eq_some_iff.mp hl
      obtain ⟨⟨x0, x1, x2, x3, x4, x5, x6, x7, y1, y2, y3, y4⟩, hx, hl⟩ := hl
      by_cases hlen : acc.length < 1000000000000
      rotate_left
      ·rw [if_neg hlen] at hl
       cases hl
      rw [if_pos hlen] at hl
      have HP' := Aside0.mk hp
      have HXI := Aside0.mk hx
      have HLN := Aside0.mk hlen
      have HNX := Aside0.mk hl
      clear hp hend hx hlen hl
      go_wp2_with fail
      refine (r37_Reader_peek.calls g s0_0 t1 t2 t3 t4 p0' p1' p2' p3' p4' w0 _ HX.out.i HX.out.b HP'.out).mono ?_
      rintro e w8 ⟨rfl, hi4, hb4, hk4⟩
      have HX8 := Aside0.mk (HX.out.call hi4 hb4 hk4)
      clear hi4 hb4 hk4 hc3
      go_wp2_with fail
      refine (r37_Reader_inst.calls k1 g s0_0 p1' p2' p3' p4' x0 x1 x2 x3 x4 x5 x6 x7 y1 y2 y3 y4 w0 _ HX8.out.i HX8.out.b HXI.out).mono ?_
      rintro e w3_ ⟨v5, rfl, hr5, hi5, hb5, hk5⟩
      obtain ⟨A5, c5, rfl⟩ := Kd.R_slice hr5
      have hx3 := HX8.out.call hi5 hb5 hk5
      have HR5 := Aside0.mk (Kd.R_alloc (Kd.R_lower hr5 (keep_size HX8.out.k)) (.cells #[.int .i64 x0, .int .i64 x1, .int .i64 x2, .int .i64 x3, .int .i64 x4, .slice A5 x5.length c5, .int .i64 x6, .int .i64 x7] 37))
      have HX3 := Aside0.mk (hx3.below (below_alloc (Below.refl _ _) (.cells #[.int .i64 x0, .int .i64 x1, .int .i64 x2, .int .i64 x3, .int .i64 x4, .slice A5 x5.length c5, .int .i64 x6, .int .i64 x7] 37)))
      have hbx := blk_new w3_ (.cells #[.int .i64 x0, .int .i64 x1, .int .i64 x2, .int .i64 x3, .int .i64 x4, .slice A5 x5.length c5, .int .i64 x6, .int .i64 x7] 37)
      clear hi5 hb5 hk5 hr5 hx3 HX8
      go_upto_region 12 with (fail)
      generalize hww : w3_ = w9_ at *
      generalize w9_.alloc (.cells #[.int .i64 x0, .int .i64 x1, .int .i64 x2, .int .i64 x3, .int .i64 x4, .slice A5 x5.length c5, .int .i64 x6, .int .i64 x7] 37) = W6 at HX3 HR5 hbx ⊢
      have z0 : W6.cell? ⟨w9_.heap.size, 0, none⟩ = some (.int .i64 x0) := (blk_cell hbx 0).trans rfl
      have z1 : W6.cell? ⟨w9_.heap.size, 1, none⟩ = some (.int .i64 x1) := (blk_cell hbx 1).trans rfl
      have z2 : W6.cell? ⟨w9_.heap.size, 2, none⟩ = some (.int .i64 x2) := (blk_cell hbx 2).trans rfl
      have z3 : W6.cell? ⟨w9_.heap.size, 3, none⟩ = some (.int .i64 x3) := (blk_cell hbx 3).trans rfl
      have z4 : W6.cell? ⟨w9_.heap.size, 4, none⟩ = some (.int .i64 x4) := (blk_cell hbx 4).trans rfl
      have z5 : W6.cell? ⟨w9_.heap.size, 5, none⟩ = some (.slice A5 x5.length c5) := (blk_cell hbx 5).trans rfl
      have z6 : W6.cell? ⟨w9_.heap.size, 6, none⟩ = some (.int .i64 x6) := (blk_cell hbx 6).trans rfl
      have z7 : W6.cell? ⟨w9_.heap.size, 7, none⟩ = some (.int .i64 x7) := (blk_cell hbx 7).trans rfl
      have y2_ := blk_cell HX3.out.box 2
      clear hbx
      go_wp2_with (first | ((with_reducible refine gate_builtin (b := .append) (xs := #[.tmp 50, .tmp 52]) rfl ?_); at_builtin; refine Kd.R_append k37 (w0 := W6) w.heap.size rfl (.tmp 50) (.tmp 52) 31 37 (.agg #[.int .i64 0, .int .i64 0, .int .i64 0, .int .i64 0, .int .i64 0, .slice none 0 0, .int .i64 0, .int .i64 0]) 80 rfl Try.underlying31 (by kernel_rfl) rfl (by decide) (by omega) (.slice A2 acc.length c2_) acc (⟨x0, x1, x2, x3, x4, x5, ⟨x6, x7⟩⟩ : S37) [.int .i64 x0, .int .i64 x1, .int .i64 x2, .int .i64 x3, .int .i64 x4, .slice A5 x5.length c5, .int .i64 x6, .int .i64 x7] (fun _ => True) (fun k => True ∧ some k ≠ (Value.slice A2 acc.length c2_).ownBlock) rfl rfl (k37_mkM _ _ _ (⟨x0, x1, x2, x3, x4, x5, ⟨x6, x7⟩⟩ : S37) (Kd.R_apart' HR5.out (Kd.R_typed HX3.out.r2) (by decide))) (fun k hk => ⟨trivial, hk.2⟩) (fun k hk => trivial) HX3.out.r2 (Below.refl _ _) (keep_size HX3.out.k) (by have := HLN.out; omega) ?_; intro v1 w4_ hr4 hb4 hg4 hv4; obtain ⟨A6, c6, e6⟩ := Kd.R_slice hr4; rw [List.length_append, List.length_singleton] at e6; subst e6; have HX9 := Aside0.mk (HX3.out.app hr4 hg4); have B4 := (hg4.block w2.heap.size (blk_lt HX3.out.box) (Kd.R_ne HX3.out.r2 HX3.out.box (by decide))).trans HX3.out.box; have c4_ := blk_cell B4 2; have f4_ := blk_frozen B4 2; clear hr4 hb4 hg4 hv4 B4))
      go_wp2
      go_roundg k1
      case measure => have := HKQ.out; omega
      case rel => exact ⟨_, _, _, _, _, _, ⟨HNX.out⟩, ⟨by have := HKQ.out; omega⟩, ⟨HX9.out⟩⟩
    ·rw [if_neg c3z] at hl
     have c3b : (t3 == 0) = false := beq_eq_false_iff_ne.mpr c3z
     clear c3z
     simp only [Option.some.injEq, Prod.mk.injEq] at hl
     obtain ⟨rfl, rfl, rfl, rfl, rfl⟩ := hl
     have HX8 := Aside0.mk HX.out
     go_wp2_with fail
     refine (r37_Reader_want.calls g s0_0 _ _ _ _ (⟨#[125]⟩ : ByteArray) _ _ _ _ w0 _ HX8.out.i HX8.out.b HE.out).mono ?_
     rintro e w9 ⟨rfl, hi4, hb4, hk4⟩
     have HX9 := Aside0.mk (HX8.out.call hi4 hb4 hk4)
     clear hi4 hb4 hk4
     have c_0 := blk_cell HX9.out.box 0
     have c_1 := blk_cell HX9.out.box 1
     have c_2 := blk_cell HX9.out.box 2
     have d_0 := blk_cell HX9.out.zero 0
     have d_1 := blk_cell HX9.out.zero 1
     have d_2 := blk_cell HX9.out.zero 2
     have f_0 := blk_frozen HX9.out.box 0
     have f_1 := blk_frozen HX9.out.box 1
     have f_2 := blk_frozen HX9.out.box 2
     have e_0 := blk_frozen HX9.out.zero 0
     have e_1 := blk_frozen HX9.out.zero 1
     have e_2 := blk_frozen HX9.out.zero 2
     have HF := Aside0.mk (((HX9.out.setz 0 (.slice A0 ls.length c0)).setz 1 (.int .i64 n)).setz 2 (.slice A2 acc.length c2_))
     have hne : w.heap.size ≠ w2.heap.size := by have := HX9.out.lt; omega
     have hne' : w2.heap.size ≠ w.heap.size := by have := HX9.out.lt; omega
     clear HX9 HX8 HX
     go_wp2
     refine bodyPost_ret (results_cell_row rfl _ _ w.heap.size 33 #[.slice A0 ls.length c0, .int .i64 n, .slice A2 acc.length c2_] (0, 0) _ rfl HF.out.zero Try.underlying33 rfl (by kernel_rfl)) rfl ?_
     exact ⟨_, _, rfl, HF.out.r0, HF.out.r2, HF.out.i, HF.out.b, HF.out.k⟩
end Go.Proofs.Ytkgjbdbhpohkiaa.PLi
end
-- from YtkgjbdbhpohkiaaPLix2
section
namespace Go.Proofs.Ytkgjbdbhpohkiaa.PLi
open Go.RowKit Go.Proofs.YtkgjbdbhpohkiaaW.PrintWords Go.Proofs.YtkgjbdbhpohkiaaW.PrintLast Go.Proofs.YtkgjbdbhpohkiaaW.PrintMore Go.Proofs.Ytkgjbdbhpohkiaa.Zip
attribute [local go_sem] max2_int min2_int max_two min_two max_three min_three max_four min_four   -- for this text's walks alone
set_option linter.unusedVariables false
set_option linter.unusedSimpArgs false
def r33_slot.f (a0 : Bool) (a1 : Bool) (a2 : Int) (a3 : Int) : Option (Bool) := if a0 = true then (if a1 = true then (if a2 = (-1) then (some (a2 == (-1))) else (if a2 ≥ 0 then (some (decide (a2 < a3))) else (some false))) else (if a2 ≥ 0 then (some (decide (a2 < a3))) else (some false))) else (some (a2 == (-1)))
set_option maxHeartbeats 8000000 in
set_option maxRecDepth 100000 in
theorem r33_slot.calls (a0 : Bool) (a1 : Bool) (a2 : Int) (a3 : Int) (r : Bool) (w : World) (h : r33_slot.f a0 a1 a2 a3 = some r) :
  Calls Try.prog 73 #[.bool a0, .bool a1, .int .i64 a2, .int .i64 a3] w fun e w' => e = .returned (.bool r) ∧ Drawn0 w w' := by
 have H : (if a0 = true then (if a1 = true then (if a2 = (-1) then (some (a2 == (-1))) else (if a2 ≥ 0 then (some (decide (a2 < a3))) else (some false))) else (if a2 ≥ 0 then (some (decide (a2 < a3))) else (some false))) else (some (a2 == (-1)))) = some r := h
 clear h
 by_cases c5 : a0 = true
 ·subst c5
  have H1 : (if a1 = true then (if a2 = (-1) then (some (a2 == (-1))) else (if a2 ≥ 0 then (some (decide (a2 < a3))) else (some false))) else (if a2 ≥ 0 then (some (decide (a2 < a3))) else (some false))) = some r := by rw [if_pos rfl] at H; exact H
  clear H
  have H := H1
  clear H1
  by_cases c6 : a1 = true
  ·subst c6
   have H1 : (if a2 = (-1) then (some (a2 == (-1))) else (if a2 ≥ 0 then (some (decide (a2 < a3))) else (some false))) = some r := by rw [if_pos rfl] at H; exact H
   clear H
   have H := H1
   clear H1
   by_cases c7 : a2 = (-1)
   ·rw [if_pos c7] at H
    have c7b0 : (a2 == (-1)) = true := beq_iff_eq.mpr c7
    have c7b1 : (a2 != (-1)) = false := bne_eq_false_iff_eq.mpr c7
    clear c7
    obtain rfl := Option.some.inj H
    go_enter Try.func73, Try.ntmps73
    go_wp2
    go_ret
    exact ⟨by first | rfl | (simp; done) | (simp [*]; done), zQ⟩
   ·rw [if_neg c7] at H
    have c7b0 : (a2 == (-1)) = false := beq_eq_false_iff_ne.mpr c7
    have c7b1 : (a2 != (-1)) = true := bne_iff_ne.mpr c7
    by_cases c8 : a2 ≥ 0
    ·rw [if_pos c8] at H
     have c8b0 : decide (0 ≤ a2) = true := decide_eq_true c8
     clear c8
     obtain rfl := Option.some.inj H
     go_enter Try.func73, Try.ntmps73
     go_wp2
     go_ret
     exact ⟨by first | rfl | (simp; done) | (simp [*]; done), zQ⟩
    ·rw [if_neg c8] at H
     have c8b0 : decide (0 ≤ a2) = false := decide_eq_false c8
     clear c8
     obtain rfl := Option.some.inj H
     go_enter Try.func73, Try.ntmps73
     go_wp2
     go_ret
     exact ⟨by first | rfl | (simp; done) | (simp [*]; done), zQ⟩
  ·replace c6 := Bool.eq_false_iff.mpr c6
   subst c6
   have H1 : (if a2 ≥ 0 then (some (decide (a2 < a3))) else (some false)) = some r := by rw [if_neg (show ¬ (false = true) by decide)] at H; exact H
   clear H
   have H := H1
   clear H1
   by_cases c9 : a2 ≥ 0
   ·rw [if_pos c9] at H
    have c9b0 : decide (0 ≤ a2) = true := decide_eq_true c9
    clear c9
    obtain rfl := Option.some.inj H
    go_enter Try.func73, Try.ntmps73
    go_wp2
    go_ret
    exact ⟨by first | rfl | (simp; done) | (simp [*]; done), zQ⟩
   ·rw [if_neg c9] at H
    have c9b0 : decide (0 ≤ a2) = false := decide_eq_false c9
    clear c9
    obtain rfl := Option.some.inj H
    go_enter Try.func73, Try.ntmps73
    go_wp2
    go_ret
    exact ⟨by first | rfl | (simp; done) | (simp [*]; done), zQ⟩
 ·replace c5 := Bool.eq_false_iff.mpr c5
  subst c5
  have H1 : (some (a2 == (-1))) = some r := by rw [if_neg (show ¬ (false = true) by decide)] at H; exact H
  clear H
  have H := H1
  clear H1
  obtain rfl := Option.some.inj H
  go_enter Try.func73, Try.ntmps73
  go_wp2
  go_ret
  exact ⟨by first | rfl | (simp; done) | (simp [*]; done), zQ⟩
def r33_in.l0 : Nat → ByteArray → Int → Int → Option (Bool)
 | 0, _, _, _ => none
 | k + 1, x0, x1, x5 => if x5 < (x0.size : Int) then (if 0 ≤ x5 then (if (bt x0 x5) = x1 then (some true) else (r33_in.l0 k x0 x1 (wrap64 (x5 + 1)))) else (none)) else (some false)
def r33_in.f (k : Nat) (a0 : ByteArray) (a1 : Int) : Option (Bool) := r33_in.l0 k a0 a1 0
set_option maxHeartbeats 8000000 in
set_option maxRecDepth 100000 in
theorem r33_in.calls (k : Nat) (a0 : ByteArray) (a1 : Int) (r : Bool) (w : World) (h : r33_in.f k a0 a1 = some r) :
  Calls Try.prog 74 #[.string a0, .int .u8 a1] w fun e w' => e = .returned (.bool r) ∧ Drawn0 w w' := by
 have H : (r33_in.l0 k a0 a1 0) = some r := h
 clear h
 have H' := Aside0.mk H
 clear H
 go_enter Try.func74, Try.ntmps74
 go_wp2
 go_loopg [5] k (fun kq v5 w' => ∃ (x5_1 : Int), v5 = .int .i64 x5_1 ∧ Aside0 (r33_in.l0 kq a0 a1 x5_1 = some r) ∧ Aside0 (kq ≤ k) ∧ Drawn0 w w')
 case atStart => exact ⟨(0), (by first | rfl | (simp; done) | (simp [*]; done)), H', ⟨Nat.le_refl _⟩, zQ⟩
 case round =>
  clear H'
  try clear p2
  obtain ⟨x5_1, rfl, HA, HK1, ⟨m1, rfl⟩⟩ := hrel
  cases gk with
  | zero => exact absurd HA.out (by simp [r33_in.l0])
  | succ k1 =>
   have H := HA.out
   clear HA
   simp only [r33_in.l0] at H
   by_cases c3 : x5_1 < (a0.size : Int)
   ·rw [if_pos c3] at H
    have c3b0 : decide (x5_1 < (a0.size : Int)) = true := decide_eq_true c3
    clear c3
    by_cases c4 : 0 ≤ x5_1
    ·rw [if_pos c4] at H
     have c4b0 : decide (0 ≤ x5_1) = true := decide_eq_true c4
     clear c4
     by_cases c6 : (bt a0 x5_1) = a1
     ·rw [if_pos c6] at H
      have c6b0 : ((bt a0 x5_1) == a1) = true := beq_iff_eq.mpr c6
      have c6b1 : ((bt a0 x5_1) != a1) = false := bne_eq_false_iff_eq.mpr c6
      clear c6
      obtain rfl := Option.some.inj H
      have p5 : 0 ≤ (x5_1 : Int) := of_decide_eq_true zS
      have q5 : x5_1 < (a0.size : Int) := of_decide_eq_true zS
      have hx5 := bt_at a0 x5_1
      replace p5 := eq_true p5
      replace q5 := eq_true q5
      go_wp2
      go_ret
      exact ⟨by first | rfl | (simp; done) | (simp [*]; done), zQ⟩
     ·rw [if_neg c6] at H
      have c6b0 : ((bt a0 x5_1) == a1) = false := beq_eq_false_iff_ne.mpr c6
      have c6b1 : ((bt a0 x5_1) != a1) = true := bne_iff_ne.mpr c6
      have H' := Aside0.mk H
      clear H
      have p5 : 0 ≤ (x5_1 : Int) := of_decide_eq_true zS
      have q5 : x5_1 < (a0.size : Int) := of_decide_eq_true zS
      have hx5 := bt_at a0 x5_1
      replace p5 := eq_true p5
      replace q5 := eq_true q5
      go_wp2
      go_roundg k1
      case measure => have := HK1.out; omega
      case rel => exact ⟨(wrap64 (x5_1 + 1)), (by first | rfl | (simp; done) | (simp [*]; done)), H', ⟨by have := HK1.out; omega⟩, zQ⟩
    ·rw [if_neg c4] at H
     exact absurd H (by simp)
   ·rw [if_neg c3] at H
    have c3b0 : decide (x5_1 < (a0.size : Int)) = false := decide_eq_false c3
    clear c3
    obtain rfl := Option.some.inj H
    go_wp2
    go_ret
    exact ⟨by first | rfl | (simp; done) | (simp [*]; done), zQ⟩
def r33_place.f (a0 : Bool) (a1 : Int) (a2 : Int) : Option (Bool) := if a0 = true then (if a1 ≥ 0 then (some (decide (a1 < a2))) else (some false)) else (some (a1 == 0))
set_option maxHeartbeats 8000000 in
set_option maxRecDepth 100000 in
theorem r33_place.calls (a0 : Bool) (a1 : Int) (a2 : Int) (r : Bool) (w : World) (h : r33_place.f a0 a1 a2 = some r) :
  Calls Try.prog 75 #[.bool a0, .int .i64 a1, .int .i64 a2] w fun e w' => e = .returned (.bool r) ∧ Drawn0 w w' := by
 have H : (if a0 = true then (if a1 ≥ 0 then (some (decide (a1 < a2))) else (some false)) else (some (a1 == 0))) = some r := h
 clear h
 by_cases c4 : a0 = true
 ·subst c4
  have H1 : (if a1 ≥ 0 then (some (decide (a1 < a2))) else (some false)) = some r := by rw [if_pos rfl] at H; exact H
  clear H
  have H := H1
  clear H1
  by_cases c5 : a1 ≥ 0
  ·rw [if_pos c5] at H
   have c5b0 : decide (0 ≤ a1) = true := decide_eq_true c5
   clear c5
   obtain rfl := Option.some.inj H
   go_enter Try.func75, Try.ntmps75
   go_wp2
   go_ret
   exact ⟨by first | rfl | (simp; done) | (simp [*]; done), zQ⟩
  ·rw [if_neg c5] at H
   have c5b0 : decide (0 ≤ a1) = false := decide_eq_false c5
   clear c5
   obtain rfl := Option.some.inj H
   go_enter Try.func75, Try.ntmps75
   go_wp2
   go_ret
   exact ⟨by first | rfl | (simp; done) | (simp [*]; done), zQ⟩
 ·replace c4 := Bool.eq_false_iff.mpr c4
  subst c4
  have H1 : (some (a1 == 0)) = some r := by rw [if_neg (show ¬ (false = true) by decide)] at H; exact H
  clear H
  have H := H1
  clear H1
  obtain rfl := Option.some.inj H
  go_enter Try.func75, Try.ntmps75
  go_wp2
  go_ret
  exact ⟨by first | rfl | (simp; done) | (simp [*]; done), zQ⟩
end Go.Proofs.Ytkgjbdbhpohkiaa.PLi
end
-- from YtkgjbdbhpohkiaaCodeOne
section
namespace Go.Proofs.Ytkgjbdbhpohkiaa.CodeLaw
open Go.RowKit Go.Proofs.Ytkgjbdbhpohkiaa.PLi Go.Proofs.YtkgjbdbhpohkiaaW.PrintWords Go.Proofs.YtkgjbdbhpohkiaaW.PrintLast Go.Proofs.YtkgjbdbhpohkiaaW.PrintMore Go.Proofs.Ytkgjbdbhpohkiaa.Str
set_option linter.unusedSimpArgs false
set_option linter.unusedVariables false
def hasC (s : ByteArray) (c : Int) : Bool := s.toList.any (fun b => (b.toNat : Int) == c)
theorem in_l0 (c : Int) : ∀ (rest pre : List UInt8), (pre ++ rest).length ≤ 1000 → Ev (fun k => r33_in.l0 k (mk (pre ++ rest)) c (pre.length : Int)) (rest.any (fun b => (b.toNat : Int) == c)) := by
 intro rest
 induction rest with
 | nil =>
  intro pre h
  refine Ev.step (fun k => by simp only [r33_in.l0]; rfl) (ev_neg ?_ (Ev.now _))
  rw [mk_size]; simp
 | cons b rest ih =>
  intro pre h
  have hp : pre ++ b :: rest = (pre ++ [b]) ++ rest := by simp
  have hw : wrap64 ((pre.length : Int) + 1) = ((pre ++ [b]).length : Int) := by rw [w64 (by omega) (by simp at h; omega)]; simp
  refine Ev.step (fun k => by simp only [r33_in.l0]; rfl) (ev_pos (by rw [mk_size]; simp; omega) (ev_pos (by omega) ?_))
  rw [bt_pre]
  by_cases hc : (b.toNat : Int) = c
  ·refine ev_pos hc ?_
   have : List.any (b :: rest) (fun b => (b.toNat : Int) == c) = true := by simp [hc]
   rw [this]; exact Ev.now _
  ·refine ev_neg hc ?_
   have : List.any (b :: rest) (fun b => (b.toNat : Int) == c) = rest.any (fun b => (b.toNat : Int) == c) := by simp [hc]
   rw [this, hw, hp]
   exact ih (pre ++ [b]) (by rw [← hp]; exact h)
theorem in_any (s : ByteArray) (c : Int) (h : s.size ≤ 1000) : Ev (fun k => r33_in.f k s c) (hasC s c) := by
 have := in_l0 c s.data.toList [] (by simpa using h)
 rw [List.nil_append] at this
 have e : mk s.data.toList = s := (mk_data s).symm
 unfold hasC
 rw [toList_eq]
 rw [e] at this
 exact this
theorem rd_at (l : List Int) (i : Nat) (h : i < l.length) : rd l (i : Int) = l[i] := by
 unfold rd
 rw [List.getD_eq_getElem?_getD, Int.toNat_natCast, List.getElem?_eq_getElem h]; rfl
theorem rd47_at (l : List S33) (i : Nat) (h : i < l.length) : rd_T33 l (i : Int) = l[i] := by
 unfold rd_T33
 rw [List.getD_eq_getElem?_getD, Int.toNat_natCast, List.getElem?_eq_getElem h]; rfl
theorem rd51_at (l : List S37) (i : Nat) (h : i < l.length) : rd_T37 l (i : Int) = l[i] := by
 unfold rd_T37
 rw [List.getD_eq_getElem?_getD, Int.toNat_natCast, List.getElem?_eq_getElem h]; rfl
def allB (l : List Int) (n : Int) : Bool := !(l.any (offB n)) && decide (l.length ≤ 8)
theorem all_l0 (l : List Int) (n : Int) (hl : l.length ≤ 9223372036854775806) : ∀ (d i : Nat), l.length - i = d → Ev (fun k => r33_all.l0 k l n (i : Int)) (!((l.drop i).any (offB n)) && decide (l.length ≤ 8)) := by
 intro d
 induction d with
 | zero =>
  intro i hd
  refine Ev.step (fun k => by simp only [r33_all.l0]; rfl) (ev_neg (by omega) ?_)
  rw [List.drop_eq_nil_of_le (by omega)]
  have : decide ((l.length : Int) ≤ 8) = decide (l.length ≤ 8) := by congr 1; exact propext (by omega)
  rw [this]
  exact Ev.now _
 | succ d ih =>
  intro i hd
  have hi : i < l.length := by omega
  refine Ev.step (fun k => by simp only [r33_all.l0]; rfl) (ev_pos (by omega) (ev_pos (by omega) ?_))
  rw [rd_at l i hi, List.drop_eq_getElem_cons hi, List.any_cons]
  by_cases h1 : l[i] < 0
  ·rw [offB_neg h1]; exact ev_pos h1 (Ev.now _)
  ·by_cases h2 : n ≤ l[i]
   ·rw [offB_ge h1 h2]; exact ev_neg h1 (ev_pos h2 (Ev.now _))
   ·rw [offB_in h1 h2, Bool.false_or]
    have hw : wrap64 ((i : Int) + 1) = ((i + 1 : Nat) : Int) := by rw [w64 (by omega) (by omega)]; omega
    rw [hw]
    exact ev_neg h1 (ev_neg h2 (ih (i + 1) (by omega)))
theorem all_any (l : List Int) (n : Int) (hl : l.length ≤ 9223372036854775806) : Ev (fun k => r33_all.f k l n) (allB l n) := all_l0 l n hl _ 0 rfl
def slotB (has may : Bool) (s size : Int) : Bool := if !has || (may && s == -1) then s == -1 else decide (0 ≤ s) && decide (s < size)
theorem slot_any (has may : Bool) (s size : Int) : r33_slot.f has may s size = some (slotB has may s size) := by
 unfold r33_slot.f slotB
 by_cases h1 : s = -1
 ·subst h1; cases has <;> cases may <;> simp
 ·by_cases h2 : 0 ≤ s <;> cases has <;> cases may <;> simp [h1, h2]
def placeB (has : Bool) (n size : Int) : Bool := if has then decide (0 ≤ n) && decide (n < size) else n == 0
theorem place_any (has : Bool) (n size : Int) : r33_place.f has n size = some (placeB has n size) := by
 unfold r33_place.f placeB
 by_cases h2 : 0 ≤ n <;> cases has <;> simp [h2]
def refB (op d a b nn : Int) (l : List Int) (t0 t1 size n funcs : Int) : Bool :=
 let s := piecesS op
 !(s.toList.isEmpty) && (if op = 21 then decide (0 ≤ a) && decide (a < funcs) else slotB (hasC s 97) (op == 28) a size) && slotB (hasC s 100) (op == 21) d size && slotB (hasC s 98) false b size &&
  !((hasC s 115 && (decide (nn < 0) || decide (2097152 ≤ nn))) || (!hasC s 115 && !hasC s 119 && nn != 0)) &&
  !((hasC s 108 && !allB l size) || (!hasC s 108 && (l.length != 0))) &&
  placeB (hasC s 111 || hasC s 116) t0 n && placeB (hasC s 116) t1 n
theorem size_ite {c : Prop} [Decidable c] {a b : ByteArray} {n : Nat} (ha : a.size ≤ n) (hb : b.size ≤ n) : (if c then a else b).size ≤ n := by split <;> assumption
theorem pieces_len (op : Int) : (piecesS op).size ≤ 1000 := by
 unfold piecesS
 repeat (first | decide | refine size_ite (by decide) ?_)
theorem ev_bind' {α β : Type} {g : Nat → Option α} {f : Nat → α → Option β} {a : α} {r : β} (h : Ev g a) (k : Ev (fun n => f n a) r) : Ev (fun n => (g n).bind (f n)) r := Ev.bind h k
end Go.Proofs.Ytkgjbdbhpohkiaa.CodeLaw
end
