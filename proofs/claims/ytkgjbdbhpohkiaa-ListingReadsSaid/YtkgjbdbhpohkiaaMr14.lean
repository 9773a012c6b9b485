import Derived.Test.YtkgjbdbhpohkiaaMr13
import Derived.Test.YtkgjbdbhpohkiaaMr2
import Derived.Test.YtkgjbdbhpohkiaaMr5
import Derived.WalkSpells
-- from YtkgjbdbhpohkiaaHLRBody
section
namespace Go.Proofs.Ytkgjbdbhpohkiaa.PLi
open Go.RowKit Go.Proofs.YtkgjbdbhpohkiaaW.PrintWords Go.Proofs.YtkgjbdbhpohkiaaW.PrintLast Go.Proofs.YtkgjbdbhpohkiaaW.PrintMore Go.Proofs.Ytkgjbdbhpohkiaa.Str
set_option linter.unusedVariables false
set_option linter.unusedSimpArgs false
def rbLoop : Nat → List (S84) → List (S37) → Int → Int → Int → Int → Option (List (S37) × Int × Int × Int × Int)
 | 0, _, _, _, _, _, _ => none
 | k + 1, tl, acc, s1, s2, s3, s4 => if s3 = 0 then (listing_reader_peek.f tl s1 s2 s3 s4).bind fun p => if p.1.toList = ([125] : List UInt8) then some (acc, p.2.1, p.2.2.1, p.2.2.2.1, p.2.2.2.2) else
   (listing_reader_inst.f k tl p.2.1 p.2.2.1 p.2.2.2.1 p.2.2.2.2).bind fun x => if acc.length < 1000000000000 then rbLoop k tl (acc ++ [⟨x.1, x.2.1, x.2.2.1, x.2.2.2.1, x.2.2.2.2.1, x.2.2.2.2.2.1, ⟨x.2.2.2.2.2.2.1, x.2.2.2.2.2.2.2.1⟩⟩]) x.2.2.2.2.2.2.2.2.1 x.2.2.2.2.2.2.2.2.2.1 x.2.2.2.2.2.2.2.2.2.2.1 x.2.2.2.2.2.2.2.2.2.2.2 else none
  else some (acc, s1, s2, s3, s4)
def listing_reader_body.f (k : Nat) (tl : List (S84)) (s1 s2 s3 s4 : Int) : Option (List Int × Int × List (S37) × Int × Int × Int × Int) :=
 (listing_reader_want.f tl s1 s2 s3 s4 (⟨#[98, 111, 100, 121]⟩ : ByteArray)).bind fun a => (listing_reader_list.f k tl a.1 a.2.1 a.2.2.1 a.2.2.2).bind fun l => (listing_reader_peek.f tl l.2.1 l.2.2.1 l.2.2.2.1 l.2.2.2.2).bind fun p => (digits_Index.f k p.1 4096).bind fun n =>
  (if n.2 = 0 then some (p.2.1, p.2.2.1, p.2.2.2.1, p.2.2.2.2) else listing_reader_fail.f tl p.2.1 p.2.2.1 p.2.2.2.1 p.2.2.2.2 n.2).bind fun q => (listing_reader_want.f tl (wrap64 (q.1 + 1)) q.2.1 q.2.2.1 q.2.2.2 (⟨#[123]⟩ : ByteArray)).bind fun o =>
   (rbLoop k tl [] o.1 o.2.1 o.2.2.1 o.2.2.2).bind fun c => (listing_reader_want.f tl c.2.1 c.2.2.1 c.2.2.2.1 c.2.2.2.2 (⟨#[125]⟩ : ByteArray)).bind fun e => some (l.1, n.1, c.1, e.1, e.2.1, e.2.2.1, e.2.2.2)
structure RBAt (g b2 b3 : Nat) (z : Array Value) (tl : List (S84)) (ps : List Int) (v0 : Value) (sz : Int) (co : List (S37)) (v2 : Value) (s1 s2 s3 s4 : Int) (w0 w w' : World) : Prop where
 i : IsS67 w0 w' g tl s1 s2 s3 s4
 b : Below w0.heap.size w0 w'
 k : KeepBut w w' g none
 wb : w0.heap.size ≤ w.heap.size
 gl : g < w.heap.size
 ge : w.heap.size ≤ b2
 lt : b2 < b3
 zero : w'.heap[b2]? = some (.cells z 33 (0, 0))
 box : w'.heap[b3]? = some (.cells #[v0, .int .i64 sz, v2] 33 (0, 0))
 r0 : Kd.R (Kd.int .i64) 3 w' w.heap.size (fun _ => True) v0 ps
 r2 : Kd.R k37 37 w' w.heap.size (fun _ => True) v2 co
section
variable {g b2 b3 : Nat} {z : Array Value} {tl : List (S84)} {ps : List Int} {v0 v2 : Value} {sz : Int} {co : List (S37)} {s1 s2 s3 s4 r1 r2 r3 r4 : Int} {w0 w w1 w2 : World}
theorem rb_keep {α : Type} {d : Kd α} {e base t : Nat} {cells : Array Value} {v : Value} {xs : List α} (hr : d.R e w1 base (fun _ => True) v xs) (hG : w1.heap[g]? = some (.cells cells t (0, 0))) (ht : ∀ q, q ∈ e :: d.E → q ≠ t) (hk : KeepBut w1 w2 g none) : d.R e w2 base (fun _ => True) v xs :=
 Kd.R_mono (Kd.R_step (Kd.R_types hr hG ht) (fun k ho hlt => hk.2 k hlt ho.2 (by simp))) (fun _ _ => trivial)
theorem RBAt.call (h : RBAt g b2 b3 z tl ps v0 sz co v2 s1 s2 s3 s4 w0 w w1) (hi : IsS67 w0 w2 g tl r1 r2 r3 r4) (hb : Below w0.heap.size w0 w2) (hk : KeepBut w1 w2 g none) : RBAt g b2 b3 z tl ps v0 sz co v2 r1 r2 r3 r4 w0 w w2 := by
 obtain ⟨A0, c0, hG, -, -⟩ := h.i
 have h1 := h.gl
 have h2 := h.ge
 have h3 := h.lt
 exact ⟨hi, hb, h.k.trans hk (.inl rfl), h.wb, h.gl, h.ge, h.lt, hk.blk h.zero (by omega) (by simp), hk.blk h.box (by omega) (by simp), rb_keep h.r0 hG (by decide) hk, rb_keep h.r2 hG (by decide) hk⟩
theorem RBAt.below (h : RBAt g b2 b3 z tl ps v0 sz co v2 s1 s2 s3 s4 w0 w w1) (hb : Below w1.heap.size w1 w2) : RBAt g b2 b3 z tl ps v0 sz co v2 s1 s2 s3 s4 w0 w w2 :=
 ⟨h.i.below hb, below_step h.b hb, h.k.trans (KeepBut.of_below hb g none) (.inl rfl), h.wb, h.gl, h.ge, h.lt, blk_below h.zero hb, blk_below h.box hb, Kd.R_below h.r0 hb, Kd.R_below h.r2 hb⟩
theorem RBAt.put (h : RBAt g b2 b3 z tl ps v0 sz co v2 s1 s2 s3 s4 w0 w w1) (n : Int) : RBAt g b2 b3 z tl ps v0 n co v2 s1 s2 s3 s4 w0 w (w1.setCell ⟨b3, 1, none⟩ (.int .i64 n)) := by
 have h1 := h.gl
 have h2 := h.ge
 have h3 := h.lt
 have h4 := h.wb
 exact ⟨h.i.far (by show g ≠ b3; omega) _, below_set h.b (by show _ ≤ b3; omega), keep_far h.k (by show _ ≤ b3; omega) _, h.wb, h.gl, h.ge, h.lt, (Below.heap_setCell w1 ⟨b3, 1, none⟩ _ _ (by show b2 ≠ b3; omega)).trans h.zero, blk_put h.box 1 _ rfl,
  Kd.R_set h.r0 h.box (by decide) 1 _, Kd.R_set h.r2 h.box (by decide) 1 _⟩
theorem RBAt.put0 (h : RBAt g b2 b3 z tl ps v0 sz co v2 s1 s2 s3 s4 w0 w w1) (l : List Int) (u : Value) (hu : Kd.R (Kd.int .i64) 3 w1 w.heap.size (fun _ => True) u l) : RBAt g b2 b3 z tl l u sz co v2 s1 s2 s3 s4 w0 w (w1.setCell ⟨b3, 0, none⟩ u) := by
 have h1 := h.gl
 have h2 := h.ge
 have h3 := h.lt
 have h4 := h.wb
 exact ⟨h.i.far (by show g ≠ b3; omega) _, below_set h.b (by show _ ≤ b3; omega), keep_far h.k (by show _ ≤ b3; omega) _, h.wb, h.gl, h.ge, h.lt, (Below.heap_setCell w1 ⟨b3, 0, none⟩ _ _ (by show b2 ≠ b3; omega)).trans h.zero, blk_put h.box 0 _ rfl,
  Kd.R_set hu h.box (by decide) 0 _, Kd.R_set h.r2 h.box (by decide) 0 _⟩
theorem RBAt.setz (h : RBAt g b2 b3 z tl ps v0 sz co v2 s1 s2 s3 s4 w0 w w1) (j : Nat) (u : Value) : RBAt g b2 b3 (z.setIfInBounds j u) tl ps v0 sz co v2 s1 s2 s3 s4 w0 w (w1.setCell ⟨b2, j, none⟩ u) := by
 have h1 := h.gl
 have h2 := h.ge
 have h3 := h.lt
 have h4 := h.wb
 exact ⟨h.i.far (by show g ≠ b2; omega) u, below_set h.b (by show _ ≤ b2; omega), keep_far h.k (by show _ ≤ b2; omega) u, h.wb, h.gl, h.ge, h.lt, blk_put h.zero j u rfl, (Below.heap_setCell w1 ⟨b2, j, none⟩ u _ (by show b3 ≠ b2; omega)).trans h.box,
  Kd.R_set h.r0 h.zero (by decide) j u, Kd.R_set h.r2 h.zero (by decide) j u⟩
theorem RBAt.app (h : RBAt g b2 b3 z tl ps v0 sz co v2 s1 s2 s3 s4 w0 w w1) {co' : List (S37)} {v1 : Value} (hr : Kd.R k37 37 w2 w.heap.size (fun _ => True) v1 co') (hg : w1.grownBy w2 v2.ownBlock) : RBAt g b2 b3 z tl ps v0 sz co' v1 s1 s2 s3 s4 w0 w (w2.setCell ⟨b3, 2, none⟩ v1) := by
 have h1 := h.gl
 have h2 := h.ge
 have h3 := h.lt
 have h4 := h.wb
 obtain ⟨A0, c0, hG, -, -⟩ := h.i
 have ng : some g ≠ v2.ownBlock := Kd.R_ne h.r2 hG (by decide)
 have hz := (hg.block b2 (blk_lt h.zero) (Kd.R_ne h.r2 h.zero (by decide))).trans h.zero
 have hx := (hg.block b3 (blk_lt h.box) (Kd.R_ne h.r2 h.box (by decide))).trans h.box
 have hb : Below w0.heap.size w0 w2 := pw_below_grown h.b v2.ownBlock (Nat.le_trans h.wb (keep_size h.k)) hg (fun k e => Nat.le_trans h.wb (Kd.R_base h.r2 k e))
 have hr0 : Kd.R (Kd.int .i64) 3 w2 w.heap.size (fun _ => True) v0 ps := Kd.R_mono (Kd.R_step (Kd.R_apart' h.r0 (Kd.R_typed h.r2) (by decide)) (fun k ho hlt => hg.block k hlt ho.2)) (fun _ _ => trivial)
 exact ⟨(h.i.grown hg ng).far (by show g ≠ b3; omega) _, below_set hb (by show _ ≤ b3; omega), keep_far (h.k.trans (KeepBut.of_grown hg g) ((Kd.R_base2 h.r2).imp (fun e => e) (fun e => e))) (by show _ ≤ b3; omega) _, h.wb, h.gl, h.ge, h.lt, (Below.heap_setCell w2 ⟨b3, 2, none⟩ _ _ (by show b2 ≠ b3; omega)).trans hz, blk_put hx 2 _ rfl,
  Kd.R_set hr0 hx (by decide) 2 _, Kd.R_set hr hx (by decide) 2 _⟩
end
set_option maxHeartbeats 8000000 in
set_option maxRecDepth 100000 in
theorem listing_reader_body.calls (k : Nat) (g : Nat) (s0_0 : List (S84)) (s0_1 s0_2 s0_3 s0_4 : Int) (r1 : List Int) (r2 : Int) (r3 : List (S37)) (r4 r5 r6 r7 : Int) (w0 w : World) (hI : IsS67 w0 w g s0_0 s0_1 s0_2 s0_3 s0_4) (hB : Below w0.heap.size w0 w) (h : listing_reader_body.f k s0_0 s0_1 s0_2 s0_3 s0_4 = some (r1, r2, r3, r4, r5, r6, r7)) :
  Calls Try.prog 37 #[.pointer (some ⟨g, 0, none⟩)] w fun e w' => ∃ v0_ v2_ : Value, e = .returned (.agg #[v0_, .int .i64 r2, v2_]) ∧ Kd.R (Kd.int .i64) 3 w' w.heap.size (fun _ => True) v0_ r1 ∧ Kd.R k37 37 w' w.heap.size (fun _ => True) v2_ r3 ∧ IsS67 w0 w' g s0_0 r4 r5 r6 r7 ∧ Below w0.heap.size w0 w' ∧ KeepBut w w' g none := by
 have hu33 := Try.underlying33
 have hu37 := Try.underlying37
 unfold listing_reader_body.f at h
 replace h := Option.bind_eq_some_iff.mp h
 obtain ⟨⟨a1, a2, a3, a4⟩, ha, h⟩ := h
 replace h := Option.bind_eq_some_iff.mp h
 obtain ⟨⟨ls, l1, l2, l3, l4⟩, hl, h⟩ := h
 replace h := Option.bind_eq_some_iff.mp h
 obtain ⟨⟨p0, p1, p2, p3, p4⟩, hp, h⟩ := h
 replace h := Option.bind_eq_some_iff.mp h
 obtain ⟨⟨n, nc⟩, hn, h⟩ := h
 replace h := Option.bind_eq_some_iff.mp h
 obtain ⟨⟨q1, q2, q3, q4⟩, hq, h⟩ := h
 replace h := Option.bind_eq_some_iff.mp h
 obtain ⟨⟨o1, o2, o3, o4⟩, ho, h⟩ := h
 replace h := Option.bind_eq_some_iff.mp h
 obtain ⟨⟨cs, c1, c2, c3, c4⟩, hc, h⟩ := h
 replace h := Option.bind_eq_some_iff.mp h
 obtain ⟨⟨e1, e2, e3, e4⟩, he, h⟩ := h
 simp only [Option.some.injEq, Prod.mk.injEq] at h
 obtain ⟨rfl, rfl, rfl, rfl, rfl, rfl, rfl⟩ := h
 have HA := Aside0.mk ha
 have HLS := Aside0.mk hl
 have HP := Aside0.mk hp
 have HN := Aside0.mk hn
 have HQ := Aside0.mk hq
 have HO := Aside0.mk ho
 have HC := Aside0.mk hc
 have HE := Aside0.mk he
 have HI := Aside0.mk hI
 have HB := Aside0.mk hB
 have HL := Aside0.mk hI.lt
 clear ha hl hp hn hq ho hc he hI hB
 go_enter Try.func37, Try.ntmps37
 have hbz := blk_new w (.cells #[.slice none 0 0, .int .i64 0, .slice none 0 0] 33)
 have hi0 := HI.out.alloc (.cells #[.slice none 0 0, .int .i64 0, .slice none 0 0] 33)
 have hb0 := below_alloc HB.out (.cells #[.slice none 0 0, .int .i64 0, .slice none 0 0] 33)
 have hk0 := keep_alloc (g := g) (KeepBut.refl w g none) (.cells #[.slice none 0 0, .int .i64 0, .slice none 0 0] 33)
 go_upto_region 1 with (fail)
 generalize w.alloc (.cells #[.slice none 0 0, .int .i64 0, .slice none 0 0] 33) = W0 at hbz hi0 hb0 hk0 ⊢
 have HBZ := Aside0.mk hbz
 have HI0 := Aside0.mk hi0
 have HB0 := Aside0.mk hb0
 have HK0 := Aside0.mk hk0
 clear hbz hi0 hb0 hk0
 go_wp2_with fail
 refine (listing_reader_want.calls g s0_0 s0_1 s0_2 s0_3 s0_4 (⟨#[98, 111, 100, 121]⟩ : ByteArray) a1 a2 a3 a4 w0 _ HI0.out HB0.out HA.out).mono ?_
 rintro e w1 ⟨rfl, hi1, hb1, hk1⟩
 have HBZ1 := Aside0.mk (hk1.blk HBZ.out (by have := HL.out; omega) (by simp))
 have HI1 := Aside0.mk hi1
 have HB1 := Aside0.mk hb1
 have HK1 := Aside0.mk (HK0.out.trans hk1 (.inl rfl))
 clear hi1 hb1 hk1
 go_wp2_with fail
 refine (listing_reader_list.calls k g s0_0 a1 a2 a3 a4 ls l1 l2 l3 l4 w0 _ HI1.out HB1.out HLS.out).mono ?_
 rintro e w2 ⟨v0, rfl, hr2, hi2, hb2, hk2⟩
 obtain ⟨A0, c0, rfl⟩ := Kd.R_slice hr2
 have hz2 := hk2.blk HBZ1.out (by have := HL.out; omega) (by simp)
 have HX := Aside0.mk (show RBAt g w.heap.size w2.heap.size #[.slice none 0 0, .int .i64 0, .slice none 0 0] s0_0 ls (.slice A0 ls.length c0) 0 [] (.slice none 0 0) l1 l2 l3 l4 w0 w (w2.alloc (.cells #[.slice A0 ls.length c0, .int .i64 0, .slice none 0 0] 33)) from
  ⟨hi2.alloc _, below_alloc hb2 _, keep_alloc (HK1.out.trans hk2 (.inl rfl)) _, HB.out.size, HL.out, Nat.le_refl _, blk_lt hz2, blk_alloc hz2 _, blk_new _ _, Kd.R_alloc (Kd.R_lower hr2 (keep_size HK1.out)) _, Kd.R_nil _ _ _ _ _⟩)
 clear hr2 hi2 hb2 hk2 hz2
 go_upto_region 3 with (fail)
 generalize w2.alloc (.cells #[.slice A0 ls.length c0, .int .i64 0, .slice none 0 0] 33) = W3 at HX ⊢
 go_wp2_with fail
 refine (listing_reader_peek.calls g s0_0 l1 l2 l3 l4 p0 p1 p2 p3 p4 w0 _ HX.out.i HX.out.b HP.out).mono ?_
 rintro e w4 ⟨rfl, hi4, hb4, hk4⟩
 have HX4 := Aside0.mk (HX.out.call hi4 hb4 hk4)
 clear hi4 hb4 hk4 HX
 go_wp2_with fail
 refine (digits_Index.calls k p0 4096 n nc _ HN.out).mono ?_
 rintro e w5 ⟨rfl, ⟨nd, rfl⟩⟩
 have HX5 := Aside0.mk (HX4.out.below (pw_below_drewN (Below.refl _ _) nd))
 clear HX4
 go_upto_if 20 with (fail)
 (try simp only [Act.put, List.setIfInBounds_toArray, List.set_cons_zero, List.set_cons_succ])
 generalize w4.drewN nd = w5 at HX5 ⊢
 go_cut [] (fun wc => Aside0 (RBAt g w.heap.size w2.heap.size #[.slice none 0 0, .int .i64 0, .slice none 0 0] s0_0 ls (.slice A0 ls.length c0) 0 [] (.slice none 0 0) q1 q2 q3 q4 w0 w wc))
 case first =>
  have hq := HQ.out
  by_cases c12 : nc = 0
  ·rw [if_pos c12] at hq
   have c12b0 : (nc == 0) = true := beq_iff_eq.mpr c12
   have c12b1 : (nc != 0) = false := bne_eq_false_iff_eq.mpr c12
   clear c12
   (first | rw [c12b1] | (simp only [i64_w, i32_w]; rw [c12b1]) | skip)
   simp only [Option.some.injEq, Prod.mk.injEq] at hq
   obtain ⟨rfl, rfl, rfl, rfl⟩ := hq
   go_wp2_with fail
   go_meet
   exact HX5
  ·rw [if_neg c12] at hq
   have c12b0 : (nc == 0) = false := beq_eq_false_iff_ne.mpr c12
   have c12b1 : (nc != 0) = true := bne_iff_ne.mpr c12
   clear c12
   (first | rw [c12b1] | (simp only [i64_w, i32_w]; rw [c12b1]) | skip)
   have HQ1 := Aside0.mk hq
   clear hq
   go_wp2_with fail
   refine (listing_reader_fail.calls g s0_0 p1 p2 p3 p4 nc q1 q2 q3 q4 w0 _ HX5.out.i HX5.out.b HQ1.out).mono ?_
   rintro e w6 ⟨rfl, hi4, hb4, hk4⟩
   have HX6 := Aside0.mk (HX5.out.call hi4 hb4 hk4)
   clear hi4 hb4 hk4
   go_wp2_with fail
   go_meet
   exact HX6
 case rest =>
  clear HX5
  have HX := hcut
  clear hcut
  have c1_ := blk_cell HX.out.box 1
  have f1_ := blk_frozen HX.out.box 1
  have HX1 := Aside0.mk (HX.out.put n)
  go_upto_region 8 with (fail)
  generalize wc.setCell ⟨w2.heap.size, 1, none⟩ (.int .i64 n) = W4 at HX1 ⊢
  clear c1_ f1_ HX
  obtain ⟨A1, c1_, hG, hg_, hS_⟩ := HX1.out.i
  have hc1 := cellS67_1 hG
  have hf1 := blk_frozen hG 1
  have HX2 := Aside0.mk (HX1.out.call (HX1.out.i.set_1 (wrap64 (q1 + 1))) (below_set HX1.out.b hg_) ((KeepBut.refl W4 g none).set_ 1 _))
  clear hG hg_ hS_
  go_upto_region 9 with (fail)
  generalize W4.setCell ⟨g, 1, none⟩ (.int .i64 (wrap64 (q1 + 1))) = W5 at HX2 ⊢
  clear hc1 hf1 HX1
  go_wp2_with fail
  refine (listing_reader_want.calls g s0_0 _ _ _ _ (⟨#[123]⟩ : ByteArray) o1 o2 o3 o4 w0 _ HX2.out.i HX2.out.b HO.out).mono ?_
  rintro e w7 ⟨rfl, hi4, hb4, hk4⟩
  have HX7 := Aside0.mk (HX2.out.call hi4 hb4 hk4)
  clear hi4 hb4 hk4 HX2
  go_wp2
  (try simp only [Act.put, List.setIfInBounds_toArray, List.set_cons_zero, List.set_cons_succ])
  go_loopg [] k (fun kq w' => ∃ (acc : List (S37)) (v2 : Value) (t1 t2 t3 t4 : Int), Aside0 (rbLoop kq s0_0 acc t1 t2 t3 t4 = some (cs, c1, c2, c3, c4)) ∧ Aside0 (kq ≤ k) ∧ Aside0 (RBAt g w.heap.size w2.heap.size #[.slice none 0 0, .int .i64 0, .slice none 0 0] s0_0 ls (.slice A0 ls.length c0) n acc v2 t1 t2 t3 t4 w0 w w'))
  case atStart => exact ⟨_, _, _, _, _, _, ⟨HC.out⟩, ⟨Nat.le_refl _⟩, ⟨HX7.out⟩⟩
  case round =>
   clear HX7
   obtain ⟨acc, v2, t1, t2, t3, t4, HLO, HKQ, HX⟩ := hrel
   obtain ⟨A2, c2_, e2_⟩ := Kd.R_slice HX.out.r2
   subst e2_
   obtain ⟨A1, c1_, hG, hg_, hS_⟩ := HX.out.i
   have hc3 := cellS67_3 hG
   clear hG hg_ hS_
   cases gk with
   | zero => exact absurd HLO.out (by simp [rbLoop])
   | succ k1 =>
    have hl := HLO.out
    simp only [rbLoop] at hl
    by_cases c3z : t3 = 0
    ·rw [if_pos c3z] at hl
     have c3b : (t3 == 0) = true := beq_iff_eq.mpr c3z
     clear c3z
     replace hl := Option.bind_eq_some_iff.mp hl
     obtain ⟨⟨p0', p1', p2', p3', p4'⟩, hp, hl⟩ := hl
     by_cases hend : p0'.toList = ([125] : List UInt8)
     ·rw [if_pos hend] at hl
      have hb8 : (p0'.toList == ([125] : List UInt8)) = true := by simpa using hend
      have hb9 : (p0'.toList != ([125] : List UInt8)) = false := by simpa using hend
      have hd8 : decide (p0'.toList = ([125] : List UInt8)) = true := decide_eq_true hend
      simp only [Option.some.injEq, Prod.mk.injEq] at hl
      obtain ⟨rfl, rfl, rfl, rfl, rfl⟩ := hl
      have HP' := Aside0.mk hp
      clear hp hend
      go_wp2_with fail
      refine (listing_reader_peek.calls g s0_0 t1 t2 t3 t4 _ _ _ _ _ w0 _ HX.out.i HX.out.b HP'.out).mono ?_
      rintro e w8 ⟨rfl, hi4, hb4, hk4⟩
      have HX8 := Aside0.mk (HX.out.call hi4 hb4 hk4)
      clear hi4 hb4 hk4 hc3
      go_wp2_with fail
      refine (listing_reader_want.calls g s0_0 _ _ _ _ (⟨#[125]⟩ : ByteArray) _ _ _ _ w0 _ HX8.out.i HX8.out.b HE.out).mono ?_
      rintro e w9 ⟨rfl, hi4, hb4, hk4⟩
      have HX9 := Aside0.mk (HX8.out.call hi4 hb4 hk4)
      clear hi4 hb4 hk4
      have c_0 := blk_cell HX9.out.box 0
      have c_1 := blk_cell HX9.out.box 1
      have c_2 := blk_cell HX9.out.box 2
      have d_0 := blk_cell HX9.out.zero 0
      have d_1 := blk_cell HX9.out.zero 1
      have d_2 := blk_cell HX9.out.zero 2
      have f_0 := blk_frozen HX9.out.box 0
      have f_1 := blk_frozen HX9.out.box 1
      have f_2 := blk_frozen HX9.out.box 2
      have e_0 := blk_frozen HX9.out.zero 0
      have e_1 := blk_frozen HX9.out.zero 1
      have e_2 := blk_frozen HX9.out.zero 2
      have HF := Aside0.mk (((HX9.out.setz 0 (.slice A0 ls.length c0)).setz 1 (.int .i64 n)).setz 2 (.slice A2 acc.length c2_))
      have hne : w.heap.size ≠ w2.heap.size := by have := HX9.out.lt; omega
      have hne' : w2.heap.size ≠ w.heap.size := by have := HX9.out.lt; omega
      clear HX9 HX8 HX
      go_wp2
      refine bodyPost_ret (results_cell_row rfl _ _ w.heap.size 33 #[.slice A0 ls.length c0, .int .i64 n, .slice A2 acc.length c2_] (0, 0) _ rfl HF.out.zero Try.underlying33 rfl (by kernel_rfl)) rfl ?_
      exact ⟨_, _, rfl, HF.out.r0, HF.out.r2, HF.out.i, HF.out.b, HF.out.k⟩
     ·rw [if_neg hend] at hl
      have hb8 : (p0'.toList == ([125] : List UInt8)) = false := by simpa using hend
      have hb9 : (p0'.toList != ([125] : List UInt8)) = true := by simpa using hend
      have hd8 : decide (p0'.toList = ([125] : List UInt8)) = false := decide_eq_false hend
      replace hl := Option.bind_eq_some_iff.mp hl
      obtain ⟨⟨x0, x1, x2, x3, x4, x5, x6, x7, y1, y2, y3, y4⟩, hx, hl⟩ := hl
      by_cases hlen : acc.length < 1000000000000
      rotate_left
      ·rw [if_neg hlen] at hl
       cases hl
      rw [if_pos hlen] at hl
      have HP' := Aside0.mk hp
      have HXI := Aside0.mk hx
      have HLN := Aside0.mk hlen
      have HNX := Aside0.mk hl
      clear hp hend hx hlen hl
      go_wp2_with fail
      refine (listing_reader_peek.calls g s0_0 t1 t2 t3 t4 p0' p1' p2' p3' p4' w0 _ HX.out.i HX.out.b HP'.out).mono ?_
      rintro e w8 ⟨rfl, hi4, hb4, hk4⟩
      have HX8 := Aside0.mk (HX.out.call hi4 hb4 hk4)
      clear hi4 hb4 hk4 hc3
      go_upto_region 11 with (fail)
      have HX9_ := Aside0.mk (show RBAt g w.heap.size w2.heap.size #[.slice none 0 0, .int .i64 0, .slice none 0 0] s0_0 ls (.slice A0 ls.length c0) n acc (.slice A2 acc.length c2_) p1' p2' p3' p4' w0 w w8.drew from HX8.out.below (below_drew1 (Below.refl _ _)))
      clear HX8
      refine start_ (n := 8) (S := fun w' => w'.cell? ⟨w2.heap.size, 2, none⟩ = some (.slice A2 acc.length c2_)) (ds := [7]) #[false, false, false, false, false, false, false, false] (by kernel_rfl) rfl rfl ((blk_cell HX9_.out.box 2)) (fun hHeld => ?_)
      refine pure_ (i := 0) (N := some 46) (v := ?_) (a' := ?_) #[true, false, false, false, false, false, false, false] rfl rfl (by kernel_rfl) (fun _ _ _ h => h) (Or.inl ⟨by rfl, ?_⟩) ?_ ?_
      rotate_left
      ·intro w'
       go_simp
       with_reducible rfl
      rotate_left
      ·simp only [Act.put, List.setIfInBounds_toArray, List.set_cons_zero, List.set_cons_succ, i64_w, i32_w]
       rfl
      refine pure_ (i := 2) (N := some 48) (v := ?_) (a' := ?_) #[true, false, true, false, false, false, false, false] rfl rfl (by kernel_rfl) (fun _ _ _ h => h) (Or.inl ⟨by rfl, ?_⟩) ?_ ?_
      rotate_left
      ·intro w'
       go_simp
       with_reducible rfl
      rotate_left
      ·simp only [Act.put, List.setIfInBounds_toArray, List.set_cons_zero, List.set_cons_succ, i64_w, i32_w]
       rfl
      refine take_ (i := 1) (N := some 47) (v := ?_) (a' := ?_) #[true, true, true, false, false, false, false, false] rfl rfl (by kernel_rfl) (fun _ _ _ h => h) (Or.inl ⟨by rfl, ?_⟩) hHeld ?_ ?_
      rotate_left
      ·intro w' s0
       go_simp
       with_reducible rfl
      rotate_left
      ·simp only [Act.put, List.setIfInBounds_toArray, List.set_cons_zero, List.set_cons_succ, i64_w, i32_w]
       rfl
      refine one_ (i := 3) (N := some 49) #[true, true, true, true, false, false, false, false] rfl rfl (by kernel_rfl) (by decide) (fun K hK => ?_)
      refine goes_ Try.func60 (by kernel_rfl) rfl #[.pointer (some ⟨g, 0, none⟩)] (by rfl) rfl rfl (by simp only [List.map_toArray, List.map_cons, List.map_nil]; rfl) ?_
      with_reducible refine (listing_reader_inst.calls k1 g s0_0 p1' p2' p3' p4' x0 x1 x2 x3 x4 x5 x6 x7 y1 y2 y3 y4 w0 _ HX9_.out.i HX9_.out.b HXI.out).mono ?_
      rintro e w3_ ⟨v5, rfl, hr5, hi5, hb5, hk5⟩
      obtain ⟨A5, c5, rfl⟩ := Kd.R_slice hr5
      refine ⟨_, rfl, ?_⟩
      have HX3 := Aside0.mk (HX9_.out.call hi5 hb5 hk5)
      have HR5 := Aside0.mk (Kd.R_lower hr5 (keep_size HX9_.out.k))
      clear hi5 hb5 hk5 hr5
      refine hK.out _ _ ((blk_cell HX3.out.box 2)) (fun hHeld => ?_)
      clear hK K
      refine norm_ (a' := ?_) ?_ ?_
      rotate_left
      ·show Act.put _ (some 49) _ = _
       simp only [Act.put, List.setIfInBounds_toArray, List.set_cons_zero, List.set_cons_succ, i64_w, i32_w]
       rfl
      refine one_ (i := 4) (N := some 50) #[true, true, true, true, true, false, false, false] rfl rfl (by kernel_rfl) (by decide) (fun K hK => ?_)
      refine value_ (w1 := ?_) (v := ?_) (by rfl) rfl ?_ ?_
      rotate_left 2
      ·go_simp
       constructor
       ·rfl
       ·rfl
      refine hK.out _ _ ((blk_cell (blk_alloc HX3.out.box (.cells #[.int .i64 x0, .int .i64 x1, .int .i64 x2, .int .i64 x3, .int .i64 x4, .slice A5 x5.length c5, .int .i64 x6, .int .i64 x7] 37)) 2)) (fun hHeld => ?_)
      clear hK K
      refine norm_ (a' := ?_) ?_ ?_
      rotate_left
      ·show Act.put _ (some 50) _ = _
       simp only [Act.put, List.setIfInBounds_toArray, List.set_cons_zero, List.set_cons_succ, i64_w, i32_w]
       rfl
      refine one_ (i := 5) (N := some 51) #[true, true, true, true, true, true, false, false] rfl rfl (by kernel_rfl) (by decide) (fun K hK => ?_)
      refine Kd.R_append_step k37 (w0 := w3_) w.heap.size (by rfl) (.tmp 47) (.tmp 50) 31 37 (.agg #[.int .i64 0, .int .i64 0, .int .i64 0, .int .i64 0, .int .i64 0, .slice none 0 0, .int .i64 0, .int .i64 0]) 80 rfl Try.underlying31 (by kernel_rfl) rfl (by decide) (by omega) (.slice A2 acc.length c2_) acc (⟨x0, x1, x2, x3, x4, x5, ⟨x6, x7⟩⟩ : S37) [.int .i64 x0, .int .i64 x1, .int .i64 x2, .int .i64 x3, .int .i64 x4, .slice A5 x5.length c5, .int .i64 x6, .int .i64 x7] (fun _ => True) (fun k => True ∧ some k ≠ (Value.slice A2 acc.length c2_).ownBlock) rfl (by first | rfl | (simp; rfl)) (k37_mkM _ _ _ (⟨x0, x1, x2, x3, x4, x5, ⟨x6, x7⟩⟩ : S37) (Kd.R_apart' HR5.out (Kd.R_typed HX3.out.r2) (by decide))) (fun k hk => ⟨trivial, hk.2⟩) (fun k hk => trivial) HX3.out.r2 (Below.refl _ _) (keep_size HX3.out.k) (by have := HLN.out; omega) ?_
      intro v1 w4_ hr4 hb4 hg4 hv4
      obtain ⟨A6, c6, e6⟩ := Kd.R_slice hr4
      rw [List.length_append, List.length_singleton] at e6
      subst e6
      have HX4 := Aside0.mk (HX3.out.app hr4 hg4)
      have B4 := Aside0.mk ((hg4.block w2.heap.size (blk_lt HX3.out.box) (Kd.R_ne HX3.out.r2 HX3.out.box (by decide))).trans HX3.out.box)
      clear hr4 hb4 hg4 hv4
      refine hK.out _ _ ((blk_cell B4.out 2)) (fun hHeld => ?_)
      clear hK K
      refine norm_ (a' := ?_) ?_ ?_
      rotate_left
      ·show Act.put _ (some 51) _ = _
       simp only [Act.put, List.setIfInBounds_toArray, List.set_cons_zero, List.set_cons_succ, i64_w, i32_w]
       rfl
      refine pure_ (i := 6) (N := some 52) (v := ?_) (a' := ?_) #[true, true, true, true, true, true, true, false] rfl rfl (by kernel_rfl) (fun _ _ _ h => h) (Or.inl ⟨by rfl, ?_⟩) ?_ ?_
      rotate_left
      ·intro w'
       go_simp
       with_reducible rfl
      rotate_left
      ·simp only [Act.put, List.setIfInBounds_toArray, List.set_cons_zero, List.set_cons_succ, i64_w, i32_w]
       rfl
      refine last_ (i := 7) (N := none) #[true, true, true, true, true, true, true, true] rfl rfl (by kernel_rfl) (by decide) (fun K hK => ?_)
      have c4_ := blk_cell B4.out 2
      have f4_ := blk_frozen B4.out 2
      refine skip_ (w1 := ?_) (by rfl) rfl ?_ ?_
      rotate_left
      ·go_simp
       rfl
      refine hK.out _ _ ?_
      clear hK K
      refine done_ (by kernel_rfl) ?_
      have HX9 := Aside0.mk HX4.out
      clear HX4 HX3 HX9_
      go_wp2
      go_roundg k1
      case measure => have := HKQ.out; omega
      case rel => exact ⟨_, _, _, _, _, _, ⟨HNX.out⟩, ⟨by have := HKQ.out; omega⟩, ⟨HX9.out⟩⟩
    ·rw [if_neg c3z] at hl
     have c3b : (t3 == 0) = false := beq_eq_false_iff_ne.mpr c3z
     clear c3z
     simp only [Option.some.injEq, Prod.mk.injEq] at hl
     obtain ⟨rfl, rfl, rfl, rfl, rfl⟩ := hl
     have HX8 := Aside0.mk HX.out
     go_wp2_with fail
     refine (listing_reader_want.calls g s0_0 _ _ _ _ (⟨#[125]⟩ : ByteArray) _ _ _ _ w0 _ HX8.out.i HX8.out.b HE.out).mono ?_
     rintro e w9 ⟨rfl, hi4, hb4, hk4⟩
     have HX9 := Aside0.mk (HX8.out.call hi4 hb4 hk4)
     clear hi4 hb4 hk4
     have c_0 := blk_cell HX9.out.box 0
     have c_1 := blk_cell HX9.out.box 1
     have c_2 := blk_cell HX9.out.box 2
     have d_0 := blk_cell HX9.out.zero 0
     have d_1 := blk_cell HX9.out.zero 1
     have d_2 := blk_cell HX9.out.zero 2
     have f_0 := blk_frozen HX9.out.box 0
     have f_1 := blk_frozen HX9.out.box 1
     have f_2 := blk_frozen HX9.out.box 2
     have e_0 := blk_frozen HX9.out.zero 0
     have e_1 := blk_frozen HX9.out.zero 1
     have e_2 := blk_frozen HX9.out.zero 2
     have HF := Aside0.mk (((HX9.out.setz 0 (.slice A0 ls.length c0)).setz 1 (.int .i64 n)).setz 2 (.slice A2 acc.length c2_))
     have hne : w.heap.size ≠ w2.heap.size := by have := HX9.out.lt; omega
     have hne' : w2.heap.size ≠ w.heap.size := by have := HX9.out.lt; omega
     clear HX9 HX8 HX
     go_wp2
     refine bodyPost_ret (results_cell_row rfl _ _ w.heap.size 33 #[.slice A0 ls.length c0, .int .i64 n, .slice A2 acc.length c2_] (0, 0) _ rfl HF.out.zero Try.underlying33 rfl (by kernel_rfl)) rfl ?_
     exact ⟨_, _, rfl, HF.out.r0, HF.out.r2, HF.out.i, HF.out.b, HF.out.k⟩
end Go.Proofs.Ytkgjbdbhpohkiaa.PLi
end
-- from YtkgjbdbhpohkiaaPLix15
section
namespace Go.Proofs.Ytkgjbdbhpohkiaa.PLi
open Go.RowKit Go.Proofs.YtkgjbdbhpohkiaaW.PrintWords Go.Proofs.YtkgjbdbhpohkiaaW.PrintLast Go.Proofs.YtkgjbdbhpohkiaaW.PrintMore Go.Proofs.Ytkgjbdbhpohkiaa.Zip
attribute [local go_sem] max2_int min2_int max_two min_two max_three min_three max_four min_four   -- for this text's walks alone
set_option linter.unusedVariables false
set_option linter.unusedSimpArgs false
def code_ends.f (a0 : Int) : Option (Bool) := if a0 = 26 then (some true) else (if a0 = 27 then (some true) else (if a0 = 28 then (some true) else (some (a0 == 29))))
set_option maxHeartbeats 8000000 in
set_option maxRecDepth 100000 in
theorem code_ends.calls (a0 : Int) (r : Bool) (w : World) (h : code_ends.f a0 = some r) :
  Calls Try.prog 61 #[.int .i64 a0] w fun e w' => e = .returned (.bool r) ∧ Drawn0 w w' := by
 have H : (if a0 = 26 then (some true) else (if a0 = 27 then (some true) else (if a0 = 28 then (some true) else (some (a0 == 29))))) = some r := h
 clear h
 by_cases c2 : a0 = 26
 ·rw [if_pos c2] at H
  have c2b0 : (a0 == 26) = true := beq_iff_eq.mpr c2
  have c2b1 : (a0 != 26) = false := bne_eq_false_iff_eq.mpr c2
  clear c2
  obtain rfl := Option.some.inj H
  go_enter Try.func61, Try.ntmps61
  go_wp2
  go_ret
  exact ⟨by first | rfl | (simp; done) | (simp [*]; done), zQ⟩
 ·rw [if_neg c2] at H
  have c2b0 : (a0 == 26) = false := beq_eq_false_iff_ne.mpr c2
  have c2b1 : (a0 != 26) = true := bne_iff_ne.mpr c2
  by_cases c3 : a0 = 27
  ·rw [if_pos c3] at H
   have c3b0 : (a0 == 27) = true := beq_iff_eq.mpr c3
   have c3b1 : (a0 != 27) = false := bne_eq_false_iff_eq.mpr c3
   clear c3
   obtain rfl := Option.some.inj H
   go_enter Try.func61, Try.ntmps61
   go_wp2
   go_ret
   exact ⟨by first | rfl | (simp; done) | (simp [*]; done), zQ⟩
  ·rw [if_neg c3] at H
   have c3b0 : (a0 == 27) = false := beq_eq_false_iff_ne.mpr c3
   have c3b1 : (a0 != 27) = true := bne_iff_ne.mpr c3
   by_cases c4 : a0 = 28
   ·rw [if_pos c4] at H
    have c4b0 : (a0 == 28) = true := beq_iff_eq.mpr c4
    have c4b1 : (a0 != 28) = false := bne_eq_false_iff_eq.mpr c4
    clear c4
    obtain rfl := Option.some.inj H
    go_enter Try.func61, Try.ntmps61
    go_wp2
    go_ret
    exact ⟨by first | rfl | (simp; done) | (simp [*]; done), zQ⟩
   ·rw [if_neg c4] at H
    have c4b0 : (a0 == 28) = false := beq_eq_false_iff_ne.mpr c4
    have c4b1 : (a0 != 28) = true := bne_iff_ne.mpr c4
    obtain rfl := Option.some.inj H
    go_enter Try.func61, Try.ntmps61
    go_wp2
    go_ret
    exact ⟨by first | rfl | (simp; done) | (simp [*]; done), zQ⟩
end Go.Proofs.Ytkgjbdbhpohkiaa.PLi
end
-- from YtkgjbdbhpohkiaaPLix16
section
namespace Go.Proofs.Ytkgjbdbhpohkiaa.PLi
open Go.RowKit Go.Proofs.YtkgjbdbhpohkiaaW.PrintWords Go.Proofs.YtkgjbdbhpohkiaaW.PrintLast Go.Proofs.YtkgjbdbhpohkiaaW.PrintMore Go.Proofs.Ytkgjbdbhpohkiaa.Zip
attribute [local go_sem] max2_int min2_int max_two min_two max_three min_three max_four min_four   -- for this text's walks alone
set_option linter.unusedVariables false
set_option linter.unusedSimpArgs false
def code_blank.f (a0 : Int) : Option (Int × Int × Int × Int × Int × List Int × Int × Int) := some (a0, (-1), (-1), (-1), 0, ([] : List Int), 0, 0)
set_option maxHeartbeats 8000000 in
set_option maxRecDepth 100000 in
theorem code_blank.calls (a0 : Int) (r1 : Int) (r2 : Int) (r3 : Int) (r4 : Int) (r5 : Int) (r6 : List Int) (r7 : Int) (r8 : Int) (w : World) (h : code_blank.f a0 = some (r1, r2, r3, r4, r5, r6, r7, r8)) :
  Calls Try.prog 86 #[.int .i64 a0] w fun e w' => ∃ v5_ : Value, e = .returned (.agg #[.int .i64 r1, .int .i64 r2, .int .i64 r3, .int .i64 r4, .int .i64 r5, v5_, .int .i64 r7, .int .i64 r8]) ∧ Kd.R (Kd.int .i64) 3 w' w.heap.size (fun _ => True) v5_ r6 ∧ Below w.heap.size w w' := by
 have hu37 := Try.underlying37
 have HB := Aside0.mk (Below.refl w.heap.size w)
 have H : (some (a0, (-1), (-1), (-1), 0, ([] : List Int), 0, 0)) = some (r1, r2, r3, r4, r5, r6, r7, r8) := h
 clear h
 simp only [Option.some.injEq, Prod.mk.injEq] at H
 obtain ⟨rfl, rfl, rfl, rfl, rfl, rfl, rfl, rfl⟩ := H
 go_enter Try.func86, Try.ntmps86
 go_wp2_with (first | ((with_reducible refine gate_dst (N := 2) rfl ?_); refine box_event ?hg (N := 2) ?hd (cs := #[.int .i64 0, .int .i64 0, .int .i64 0, .int .i64 0, .int .i64 0, .slice none 0 0, .int .i64 0, .int .i64 0]) (t := 37) ?hr ?_; (case hd => rfl); (case hg => rfl); (case hr => first | (go_simp; done) | (go_simp; rfl)); intro gb187 hg w2 hbox hb; have n0_ := Aside0.mk (below_step (zB HB.out) hb); have n1_ := Aside0.mk (hbox); have n2_ := Aside0.mk ((by rw [hg]; exact (below_size (zB HB.out)) : w.heap.size ≤ gb187)); have n3_ := Aside0.mk ((by rw [hg]; exact (below_size (zB HB.out)) : w.heap.size ≤ gb187)); clear HB; have HB := n0_; have BK187 := n1_; have GW187 := n2_; have GE187 := n3_; clear n0_ n1_ n2_ n3_; clear hb hbox hg; have hcz3_0 : w2.cell? ⟨gb187, 0, none⟩ = some (.int .i64 0) := (blk_cell BK187.out 0).trans rfl; have hcz3_1 : w2.cell? ⟨gb187, 1, none⟩ = some (.int .i64 0) := (blk_cell BK187.out 1).trans rfl; have hcz3_2 : w2.cell? ⟨gb187, 2, none⟩ = some (.int .i64 0) := (blk_cell BK187.out 2).trans rfl; have hcz3_3 : w2.cell? ⟨gb187, 3, none⟩ = some (.int .i64 0) := (blk_cell BK187.out 3).trans rfl; have hcz3_4 : w2.cell? ⟨gb187, 4, none⟩ = some (.int .i64 0) := (blk_cell BK187.out 4).trans rfl; have hcz3_5 : w2.cell? ⟨gb187, 5, none⟩ = some (.slice none 0 0) := (blk_cell BK187.out 5).trans rfl; have hcz3_6 : w2.cell? ⟨gb187, 6, none⟩ = some (.int .i64 0) := (blk_cell BK187.out 6).trans rfl; have hcz3_7 : w2.cell? ⟨gb187, 7, none⟩ = some (.int .i64 0) := (blk_cell BK187.out 7).trans rfl; have hfz3_0 := blk_frozen BK187.out 0; have hfz3_1 := blk_frozen BK187.out 1; have hfz3_2 := blk_frozen BK187.out 2; have hfz3_3 := blk_frozen BK187.out 3; have hfz3_4 := blk_frozen BK187.out 4; have hfz3_5 := blk_frozen BK187.out 5; have hfz3_6 := blk_frozen BK187.out 6; have hfz3_7 := blk_frozen BK187.out 7))
 refine bodyPost_ret (results_cell_row rfl _ _ gb187 37 #[.int .i64 a0, .int .i64 (-1), .int .i64 (-1), .int .i64 (-1), .int .i64 0, .slice none 0 0, .int .i64 0, .int .i64 0] (0, 0) _ rfl (by (with_reducible repeat (first | refine blk_drewN ?_ _ | refine blk_drew ?_ | refine blk_alloc ?_ _)); refine blk_put (cs := #[.int .i64 a0, .int .i64 (-1), .int .i64 (-1), .int .i64 (-1), .int .i64 0, .slice none 0 0, .int .i64 0, .int .i64 0]) ?_ 7 _ rfl; (with_reducible repeat (first | refine blk_drewN ?_ _ | refine blk_drew ?_ | refine blk_alloc ?_ _)); refine blk_put (cs := #[.int .i64 a0, .int .i64 (-1), .int .i64 (-1), .int .i64 (-1), .int .i64 0, .slice none 0 0, .int .i64 0, .int .i64 0]) ?_ 6 _ rfl; (with_reducible repeat (first | refine blk_drewN ?_ _ | refine blk_drew ?_ | refine blk_alloc ?_ _)); refine blk_put (cs := #[.int .i64 a0, .int .i64 (-1), .int .i64 (-1), .int .i64 (-1), .int .i64 0, .slice none 0 0, .int .i64 0, .int .i64 0]) ?_ 5 _ rfl; (with_reducible repeat (first | refine blk_drewN ?_ _ | refine blk_drew ?_ | refine blk_alloc ?_ _)); refine blk_put (cs := #[.int .i64 a0, .int .i64 (-1), .int .i64 (-1), .int .i64 (-1), .int .i64 0, .slice none 0 0, .int .i64 0, .int .i64 0]) ?_ 4 _ rfl; (with_reducible repeat (first | refine blk_drewN ?_ _ | refine blk_drew ?_ | refine blk_alloc ?_ _)); refine blk_put (cs := #[.int .i64 a0, .int .i64 (-1), .int .i64 (-1), .int .i64 0, .int .i64 0, .slice none 0 0, .int .i64 0, .int .i64 0]) ?_ 3 _ rfl; (with_reducible repeat (first | refine blk_drewN ?_ _ | refine blk_drew ?_ | refine blk_alloc ?_ _)); refine blk_put (cs := #[.int .i64 a0, .int .i64 (-1), .int .i64 0, .int .i64 0, .int .i64 0, .slice none 0 0, .int .i64 0, .int .i64 0]) ?_ 2 _ rfl; (with_reducible repeat (first | refine blk_drewN ?_ _ | refine blk_drew ?_ | refine blk_alloc ?_ _)); refine blk_put (cs := #[.int .i64 a0, .int .i64 0, .int .i64 0, .int .i64 0, .int .i64 0, .slice none 0 0, .int .i64 0, .int .i64 0]) ?_ 1 _ rfl; (with_reducible repeat (first | refine blk_drewN ?_ _ | refine blk_drew ?_ | refine blk_alloc ?_ _)); refine blk_put (cs := #[.int .i64 0, .int .i64 0, .int .i64 0, .int .i64 0, .int .i64 0, .slice none 0 0, .int .i64 0, .int .i64 0]) ?_ 0 _ rfl; (with_reducible repeat (first | refine blk_drewN ?_ _ | refine blk_drew ?_ | refine blk_alloc ?_ _)); exact BK187.out) Try.underlying37 rfl (by kernel_rfl)) rfl ?_
 exact ⟨_, zF, by first | exact Kd.R_nil _ _ _ _ _ | exact Kd.N_nil _ _ _ _ _ | exact Kd.V_nil _ _ _ _ _ | exact Kd.Q_nil _ _ _ _ _ | exact Kd.S_nil _ _ _ _ _, zC HB.out GE187.out⟩
end Go.Proofs.Ytkgjbdbhpohkiaa.PLi
end
-- from YtkgjbdbhpohkiaaHPieces
section
namespace Go.Proofs.Ytkgjbdbhpohkiaa.PLi
open Go.RowKit Go.Proofs.YtkgjbdbhpohkiaaW.PrintWords Go.Proofs.YtkgjbdbhpohkiaaW.PrintLast Go.Proofs.YtkgjbdbhpohkiaaW.PrintMore
set_option linter.unusedVariables false
set_option linter.unusedSimpArgs false
theorem nilEq {α : Type} {P : Program} {w' w : World} {t e : TypeId} (hu : P.underlying t = some (.slice e)) {d : Kd α} {A : Option Addr} {xs : List α} {c base T : Nat} (h : Kd.R d T w base (fun _ => xs.length ≠ 0) (.slice A xs.length c) xs) :
  (binOp .eql t (.slice A xs.length c) (.slice none 0 0)).run P w' = .ok (.bool (xs.length == 0)) w' := by
 refine (Go.Lib.run_eql_slice_nil w' t e A _ _ _ _ hu).trans ?_
 congr 2
 by_cases hl : xs.length = 0
 ·rw [hl]
  cases A with
  | none => rfl
  | some a => exact absurd hl (h.1 a.block rfl)
 ·have e0 : (xs.length == 0) = false := beq_eq_false_iff_ne.mpr hl
  rw [e0]
  cases A with
  | none =>
   obtain ⟨ad, e, _⟩ := (Kd.R_reads' h).2.2.2.2 (by omega)
   cases e
  | some a => rfl
def piecesL (op : Int) : List Int := if op = 1 then [0, 4] else if op = 2 ∨ op = 3 ∨ op = 4 ∨ op = 5 ∨ op = 6 ∨ op = 7 ∨ op = 9 then [0, 1, 2] else if op = 8 then [0] else if op = 10 then [0, 3] else if op = 11 ∨ op = 12 ∨ op = 15 then [0, 1, 3] else if op = 13 ∨ op = 14 then [1, 2, 3] else if op = 16 ∨ op = 17 ∨ op = 30 then [0, 1] else if op = 18 ∨ op = 19 then [1, 2] else if op = 21 then [0, 1, 3, 5] else if op = 22 ∨ op = 25 ∨ op = 28 then [1] else if op = 23 ∨ op = 29 then [3] else if op = 26 then [6] else if op = 27 then [1, 7] else []
def code_pieces.f (a0 : Int) : Option (List Int) := some (piecesL a0)
def PiecesPost (w : World) (xs : List Int) (e : Ending) (w' : World) : Prop := ∃ v0_ : Value, e = .returned (v0_) ∧ Kd.R (Kd.int .i64) 3 w' w.heap.size (fun _ => xs.length ≠ 0) v0_ xs ∧ Below w.heap.size w w'
theorem pieces_1 (w : World) : Calls Try.prog 85 #[.int .i64 1] w (PiecesPost w [0, 4]) := by
 go_enter Try.func85, Try.ntmps85
 go_wp2_with ((with_reducible refine gate_dst (N := 6) rfl ?_); refine Kd.R_lit (Kd.int .i64) _ 3 ?hg (N := 6) ?hd (xs := ([0, 4] : List Int)) (inner := [.int .i64 0, .int .i64 4]) (ok := fun _ => True) (okp := fun _ => True) ?hr ?hp (fun _ hk => hk) trivial (Below.refl _ _) (Nat.le_refl _) (by simp) ?_; (case hd => rfl); (case hg => rfl); (case hr => first | (go_simp; done) | (go_simp; rfl)); (case hp => exact (Reps.one (show Kd.M (Kd.int .i64) _ _ _ 0 [.int .i64 0] from rfl) (Reps.one (show Kd.M (Kd.int .i64) _ _ _ 4 [.int .i64 4] from rfl) (Reps.none _ _)))); intro v1 w3 ho4 hb hg_ hnew_; clear hg_ hnew_; have HO := Aside0.mk ho4; have HB := Aside0.mk hb; clear ho4 hb)
 go_ret
 exact ⟨_, rfl, Kd.R_mono HO.out (fun _ _ => by decide), HB.out⟩
theorem pieces_2 (w : World) : Calls Try.prog 85 #[.int .i64 2] w (PiecesPost w [0, 1, 2]) := by
 go_enter Try.func85, Try.ntmps85
 go_wp2_with ((with_reducible refine gate_dst (N := 15) rfl ?_); refine Kd.R_lit (Kd.int .i64) _ 3 ?hg (N := 15) ?hd (xs := ([0, 1, 2] : List Int)) (inner := [.int .i64 0, .int .i64 1, .int .i64 2]) (ok := fun _ => True) (okp := fun _ => True) ?hr ?hp (fun _ hk => hk) trivial (Below.refl _ _) (Nat.le_refl _) (by simp) ?_; (case hd => rfl); (case hg => rfl); (case hr => first | (go_simp; done) | (go_simp; rfl)); (case hp => exact (Reps.one (show Kd.M (Kd.int .i64) _ _ _ 0 [.int .i64 0] from rfl) (Reps.one (show Kd.M (Kd.int .i64) _ _ _ 1 [.int .i64 1] from rfl) (Reps.one (show Kd.M (Kd.int .i64) _ _ _ 2 [.int .i64 2] from rfl) (Reps.none _ _))))); intro v1 w3 ho4 hb hg_ hnew_; clear hg_ hnew_; have HO := Aside0.mk ho4; have HB := Aside0.mk hb; clear ho4 hb)
 go_ret
 exact ⟨_, rfl, Kd.R_mono HO.out (fun _ _ => by decide), HB.out⟩
theorem pieces_3 (w : World) : Calls Try.prog 85 #[.int .i64 3] w (PiecesPost w [0, 1, 2]) := by
 go_enter Try.func85, Try.ntmps85
 go_wp2_with ((with_reducible refine gate_dst (N := 15) rfl ?_); refine Kd.R_lit (Kd.int .i64) _ 3 ?hg (N := 15) ?hd (xs := ([0, 1, 2] : List Int)) (inner := [.int .i64 0, .int .i64 1, .int .i64 2]) (ok := fun _ => True) (okp := fun _ => True) ?hr ?hp (fun _ hk => hk) trivial (Below.refl _ _) (Nat.le_refl _) (by simp) ?_; (case hd => rfl); (case hg => rfl); (case hr => first | (go_simp; done) | (go_simp; rfl)); (case hp => exact (Reps.one (show Kd.M (Kd.int .i64) _ _ _ 0 [.int .i64 0] from rfl) (Reps.one (show Kd.M (Kd.int .i64) _ _ _ 1 [.int .i64 1] from rfl) (Reps.one (show Kd.M (Kd.int .i64) _ _ _ 2 [.int .i64 2] from rfl) (Reps.none _ _))))); intro v1 w3 ho4 hb hg_ hnew_; clear hg_ hnew_; have HO := Aside0.mk ho4; have HB := Aside0.mk hb; clear ho4 hb)
 go_ret
 exact ⟨_, rfl, Kd.R_mono HO.out (fun _ _ => by decide), HB.out⟩
theorem pieces_4 (w : World) : Calls Try.prog 85 #[.int .i64 4] w (PiecesPost w [0, 1, 2]) := by
 go_enter Try.func85, Try.ntmps85
 go_wp2_with ((with_reducible refine gate_dst (N := 15) rfl ?_); refine Kd.R_lit (Kd.int .i64) _ 3 ?hg (N := 15) ?hd (xs := ([0, 1, 2] : List Int)) (inner := [.int .i64 0, .int .i64 1, .int .i64 2]) (ok := fun _ => True) (okp := fun _ => True) ?hr ?hp (fun _ hk => hk) trivial (Below.refl _ _) (Nat.le_refl _) (by simp) ?_; (case hd => rfl); (case hg => rfl); (case hr => first | (go_simp; done) | (go_simp; rfl)); (case hp => exact (Reps.one (show Kd.M (Kd.int .i64) _ _ _ 0 [.int .i64 0] from rfl) (Reps.one (show Kd.M (Kd.int .i64) _ _ _ 1 [.int .i64 1] from rfl) (Reps.one (show Kd.M (Kd.int .i64) _ _ _ 2 [.int .i64 2] from rfl) (Reps.none _ _))))); intro v1 w3 ho4 hb hg_ hnew_; clear hg_ hnew_; have HO := Aside0.mk ho4; have HB := Aside0.mk hb; clear ho4 hb)
 go_ret
 exact ⟨_, rfl, Kd.R_mono HO.out (fun _ _ => by decide), HB.out⟩
theorem pieces_5 (w : World) : Calls Try.prog 85 #[.int .i64 5] w (PiecesPost w [0, 1, 2]) := by
 go_enter Try.func85, Try.ntmps85
 go_wp2_with ((with_reducible refine gate_dst (N := 15) rfl ?_); refine Kd.R_lit (Kd.int .i64) _ 3 ?hg (N := 15) ?hd (xs := ([0, 1, 2] : List Int)) (inner := [.int .i64 0, .int .i64 1, .int .i64 2]) (ok := fun _ => True) (okp := fun _ => True) ?hr ?hp (fun _ hk => hk) trivial (Below.refl _ _) (Nat.le_refl _) (by simp) ?_; (case hd => rfl); (case hg => rfl); (case hr => first | (go_simp; done) | (go_simp; rfl)); (case hp => exact (Reps.one (show Kd.M (Kd.int .i64) _ _ _ 0 [.int .i64 0] from rfl) (Reps.one (show Kd.M (Kd.int .i64) _ _ _ 1 [.int .i64 1] from rfl) (Reps.one (show Kd.M (Kd.int .i64) _ _ _ 2 [.int .i64 2] from rfl) (Reps.none _ _))))); intro v1 w3 ho4 hb hg_ hnew_; clear hg_ hnew_; have HO := Aside0.mk ho4; have HB := Aside0.mk hb; clear ho4 hb)
 go_ret
 exact ⟨_, rfl, Kd.R_mono HO.out (fun _ _ => by decide), HB.out⟩
theorem pieces_6 (w : World) : Calls Try.prog 85 #[.int .i64 6] w (PiecesPost w [0, 1, 2]) := by
 go_enter Try.func85, Try.ntmps85
 go_wp2_with ((with_reducible refine gate_dst (N := 15) rfl ?_); refine Kd.R_lit (Kd.int .i64) _ 3 ?hg (N := 15) ?hd (xs := ([0, 1, 2] : List Int)) (inner := [.int .i64 0, .int .i64 1, .int .i64 2]) (ok := fun _ => True) (okp := fun _ => True) ?hr ?hp (fun _ hk => hk) trivial (Below.refl _ _) (Nat.le_refl _) (by simp) ?_; (case hd => rfl); (case hg => rfl); (case hr => first | (go_simp; done) | (go_simp; rfl)); (case hp => exact (Reps.one (show Kd.M (Kd.int .i64) _ _ _ 0 [.int .i64 0] from rfl) (Reps.one (show Kd.M (Kd.int .i64) _ _ _ 1 [.int .i64 1] from rfl) (Reps.one (show Kd.M (Kd.int .i64) _ _ _ 2 [.int .i64 2] from rfl) (Reps.none _ _))))); intro v1 w3 ho4 hb hg_ hnew_; clear hg_ hnew_; have HO := Aside0.mk ho4; have HB := Aside0.mk hb; clear ho4 hb)
 go_ret
 exact ⟨_, rfl, Kd.R_mono HO.out (fun _ _ => by decide), HB.out⟩
theorem pieces_7 (w : World) : Calls Try.prog 85 #[.int .i64 7] w (PiecesPost w [0, 1, 2]) := by
 go_enter Try.func85, Try.ntmps85
 go_wp2_with ((with_reducible refine gate_dst (N := 15) rfl ?_); refine Kd.R_lit (Kd.int .i64) _ 3 ?hg (N := 15) ?hd (xs := ([0, 1, 2] : List Int)) (inner := [.int .i64 0, .int .i64 1, .int .i64 2]) (ok := fun _ => True) (okp := fun _ => True) ?hr ?hp (fun _ hk => hk) trivial (Below.refl _ _) (Nat.le_refl _) (by simp) ?_; (case hd => rfl); (case hg => rfl); (case hr => first | (go_simp; done) | (go_simp; rfl)); (case hp => exact (Reps.one (show Kd.M (Kd.int .i64) _ _ _ 0 [.int .i64 0] from rfl) (Reps.one (show Kd.M (Kd.int .i64) _ _ _ 1 [.int .i64 1] from rfl) (Reps.one (show Kd.M (Kd.int .i64) _ _ _ 2 [.int .i64 2] from rfl) (Reps.none _ _))))); intro v1 w3 ho4 hb hg_ hnew_; clear hg_ hnew_; have HO := Aside0.mk ho4; have HB := Aside0.mk hb; clear ho4 hb)
 go_ret
 exact ⟨_, rfl, Kd.R_mono HO.out (fun _ _ => by decide), HB.out⟩
theorem pieces_9 (w : World) : Calls Try.prog 85 #[.int .i64 9] w (PiecesPost w [0, 1, 2]) := by
 go_enter Try.func85, Try.ntmps85
 go_wp2_with ((with_reducible refine gate_dst (N := 15) rfl ?_); refine Kd.R_lit (Kd.int .i64) _ 3 ?hg (N := 15) ?hd (xs := ([0, 1, 2] : List Int)) (inner := [.int .i64 0, .int .i64 1, .int .i64 2]) (ok := fun _ => True) (okp := fun _ => True) ?hr ?hp (fun _ hk => hk) trivial (Below.refl _ _) (Nat.le_refl _) (by simp) ?_; (case hd => rfl); (case hg => rfl); (case hr => first | (go_simp; done) | (go_simp; rfl)); (case hp => exact (Reps.one (show Kd.M (Kd.int .i64) _ _ _ 0 [.int .i64 0] from rfl) (Reps.one (show Kd.M (Kd.int .i64) _ _ _ 1 [.int .i64 1] from rfl) (Reps.one (show Kd.M (Kd.int .i64) _ _ _ 2 [.int .i64 2] from rfl) (Reps.none _ _))))); intro v1 w3 ho4 hb hg_ hnew_; clear hg_ hnew_; have HO := Aside0.mk ho4; have HB := Aside0.mk hb; clear ho4 hb)
 go_ret
 exact ⟨_, rfl, Kd.R_mono HO.out (fun _ _ => by decide), HB.out⟩
theorem pieces_8 (w : World) : Calls Try.prog 85 #[.int .i64 8] w (PiecesPost w [0]) := by
 go_enter Try.func85, Try.ntmps85
 go_wp2_with ((with_reducible refine gate_dst (N := 18) rfl ?_); refine Kd.R_lit (Kd.int .i64) _ 3 ?hg (N := 18) ?hd (xs := ([0] : List Int)) (inner := [.int .i64 0]) (ok := fun _ => True) (okp := fun _ => True) ?hr ?hp (fun _ hk => hk) trivial (Below.refl _ _) (Nat.le_refl _) (by simp) ?_; (case hd => rfl); (case hg => rfl); (case hr => first | (go_simp; done) | (go_simp; rfl)); (case hp => exact (Reps.one (show Kd.M (Kd.int .i64) _ _ _ 0 [.int .i64 0] from rfl) (Reps.none _ _))); intro v1 w3 ho4 hb hg_ hnew_; clear hg_ hnew_; have HO := Aside0.mk ho4; have HB := Aside0.mk hb; clear ho4 hb)
 go_ret
 exact ⟨_, rfl, Kd.R_mono HO.out (fun _ _ => by decide), HB.out⟩
theorem pieces_10 (w : World) : Calls Try.prog 85 #[.int .i64 10] w (PiecesPost w [0, 3]) := by
 go_enter Try.func85, Try.ntmps85
 go_wp2_with ((with_reducible refine gate_dst (N := 21) rfl ?_); refine Kd.R_lit (Kd.int .i64) _ 3 ?hg (N := 21) ?hd (xs := ([0, 3] : List Int)) (inner := [.int .i64 0, .int .i64 3]) (ok := fun _ => True) (okp := fun _ => True) ?hr ?hp (fun _ hk => hk) trivial (Below.refl _ _) (Nat.le_refl _) (by simp) ?_; (case hd => rfl); (case hg => rfl); (case hr => first | (go_simp; done) | (go_simp; rfl)); (case hp => exact (Reps.one (show Kd.M (Kd.int .i64) _ _ _ 0 [.int .i64 0] from rfl) (Reps.one (show Kd.M (Kd.int .i64) _ _ _ 3 [.int .i64 3] from rfl) (Reps.none _ _)))); intro v1 w3 ho4 hb hg_ hnew_; clear hg_ hnew_; have HO := Aside0.mk ho4; have HB := Aside0.mk hb; clear ho4 hb)
 go_ret
 exact ⟨_, rfl, Kd.R_mono HO.out (fun _ _ => by decide), HB.out⟩
theorem pieces_11 (w : World) : Calls Try.prog 85 #[.int .i64 11] w (PiecesPost w [0, 1, 3]) := by
 go_enter Try.func85, Try.ntmps85
 go_wp2_with ((with_reducible refine gate_dst (N := 26) rfl ?_); refine Kd.R_lit (Kd.int .i64) _ 3 ?hg (N := 26) ?hd (xs := ([0, 1, 3] : List Int)) (inner := [.int .i64 0, .int .i64 1, .int .i64 3]) (ok := fun _ => True) (okp := fun _ => True) ?hr ?hp (fun _ hk => hk) trivial (Below.refl _ _) (Nat.le_refl _) (by simp) ?_; (case hd => rfl); (case hg => rfl); (case hr => first | (go_simp; done) | (go_simp; rfl)); (case hp => exact (Reps.one (show Kd.M (Kd.int .i64) _ _ _ 0 [.int .i64 0] from rfl) (Reps.one (show Kd.M (Kd.int .i64) _ _ _ 1 [.int .i64 1] from rfl) (Reps.one (show Kd.M (Kd.int .i64) _ _ _ 3 [.int .i64 3] from rfl) (Reps.none _ _))))); intro v1 w3 ho4 hb hg_ hnew_; clear hg_ hnew_; have HO := Aside0.mk ho4; have HB := Aside0.mk hb; clear ho4 hb)
 go_ret
 exact ⟨_, rfl, Kd.R_mono HO.out (fun _ _ => by decide), HB.out⟩
theorem pieces_12 (w : World) : Calls Try.prog 85 #[.int .i64 12] w (PiecesPost w [0, 1, 3]) := by
 go_enter Try.func85, Try.ntmps85
 go_wp2_with ((with_reducible refine gate_dst (N := 26) rfl ?_); refine Kd.R_lit (Kd.int .i64) _ 3 ?hg (N := 26) ?hd (xs := ([0, 1, 3] : List Int)) (inner := [.int .i64 0, .int .i64 1, .int .i64 3]) (ok := fun _ => True) (okp := fun _ => True) ?hr ?hp (fun _ hk => hk) trivial (Below.refl _ _) (Nat.le_refl _) (by simp) ?_; (case hd => rfl); (case hg => rfl); (case hr => first | (go_simp; done) | (go_simp; rfl)); (case hp => exact (Reps.one (show Kd.M (Kd.int .i64) _ _ _ 0 [.int .i64 0] from rfl) (Reps.one (show Kd.M (Kd.int .i64) _ _ _ 1 [.int .i64 1] from rfl) (Reps.one (show Kd.M (Kd.int .i64) _ _ _ 3 [.int .i64 3] from rfl) (Reps.none _ _))))); intro v1 w3 ho4 hb hg_ hnew_; clear hg_ hnew_; have HO := Aside0.mk ho4; have HB := Aside0.mk hb; clear ho4 hb)
 go_ret
 exact ⟨_, rfl, Kd.R_mono HO.out (fun _ _ => by decide), HB.out⟩
theorem pieces_15 (w : World) : Calls Try.prog 85 #[.int .i64 15] w (PiecesPost w [0, 1, 3]) := by
 go_enter Try.func85, Try.ntmps85
 go_wp2_with ((with_reducible refine gate_dst (N := 26) rfl ?_); refine Kd.R_lit (Kd.int .i64) _ 3 ?hg (N := 26) ?hd (xs := ([0, 1, 3] : List Int)) (inner := [.int .i64 0, .int .i64 1, .int .i64 3]) (ok := fun _ => True) (okp := fun _ => True) ?hr ?hp (fun _ hk => hk) trivial (Below.refl _ _) (Nat.le_refl _) (by simp) ?_; (case hd => rfl); (case hg => rfl); (case hr => first | (go_simp; done) | (go_simp; rfl)); (case hp => exact (Reps.one (show Kd.M (Kd.int .i64) _ _ _ 0 [.int .i64 0] from rfl) (Reps.one (show Kd.M (Kd.int .i64) _ _ _ 1 [.int .i64 1] from rfl) (Reps.one (show Kd.M (Kd.int .i64) _ _ _ 3 [.int .i64 3] from rfl) (Reps.none _ _))))); intro v1 w3 ho4 hb hg_ hnew_; clear hg_ hnew_; have HO := Aside0.mk ho4; have HB := Aside0.mk hb; clear ho4 hb)
 go_ret
 exact ⟨_, rfl, Kd.R_mono HO.out (fun _ _ => by decide), HB.out⟩
theorem pieces_13 (w : World) : Calls Try.prog 85 #[.int .i64 13] w (PiecesPost w [1, 2, 3]) := by
 go_enter Try.func85, Try.ntmps85
 go_wp2_with ((with_reducible refine gate_dst (N := 30) rfl ?_); refine Kd.R_lit (Kd.int .i64) _ 3 ?hg (N := 30) ?hd (xs := ([1, 2, 3] : List Int)) (inner := [.int .i64 1, .int .i64 2, .int .i64 3]) (ok := fun _ => True) (okp := fun _ => True) ?hr ?hp (fun _ hk => hk) trivial (Below.refl _ _) (Nat.le_refl _) (by simp) ?_; (case hd => rfl); (case hg => rfl); (case hr => first | (go_simp; done) | (go_simp; rfl)); (case hp => exact (Reps.one (show Kd.M (Kd.int .i64) _ _ _ 1 [.int .i64 1] from rfl) (Reps.one (show Kd.M (Kd.int .i64) _ _ _ 2 [.int .i64 2] from rfl) (Reps.one (show Kd.M (Kd.int .i64) _ _ _ 3 [.int .i64 3] from rfl) (Reps.none _ _))))); intro v1 w3 ho4 hb hg_ hnew_; clear hg_ hnew_; have HO := Aside0.mk ho4; have HB := Aside0.mk hb; clear ho4 hb)
 go_ret
 exact ⟨_, rfl, Kd.R_mono HO.out (fun _ _ => by decide), HB.out⟩
theorem pieces_14 (w : World) : Calls Try.prog 85 #[.int .i64 14] w (PiecesPost w [1, 2, 3]) := by
 go_enter Try.func85, Try.ntmps85
 go_wp2_with ((with_reducible refine gate_dst (N := 30) rfl ?_); refine Kd.R_lit (Kd.int .i64) _ 3 ?hg (N := 30) ?hd (xs := ([1, 2, 3] : List Int)) (inner := [.int .i64 1, .int .i64 2, .int .i64 3]) (ok := fun _ => True) (okp := fun _ => True) ?hr ?hp (fun _ hk => hk) trivial (Below.refl _ _) (Nat.le_refl _) (by simp) ?_; (case hd => rfl); (case hg => rfl); (case hr => first | (go_simp; done) | (go_simp; rfl)); (case hp => exact (Reps.one (show Kd.M (Kd.int .i64) _ _ _ 1 [.int .i64 1] from rfl) (Reps.one (show Kd.M (Kd.int .i64) _ _ _ 2 [.int .i64 2] from rfl) (Reps.one (show Kd.M (Kd.int .i64) _ _ _ 3 [.int .i64 3] from rfl) (Reps.none _ _))))); intro v1 w3 ho4 hb hg_ hnew_; clear hg_ hnew_; have HO := Aside0.mk ho4; have HB := Aside0.mk hb; clear ho4 hb)
 go_ret
 exact ⟨_, rfl, Kd.R_mono HO.out (fun _ _ => by decide), HB.out⟩
theorem pieces_16 (w : World) : Calls Try.prog 85 #[.int .i64 16] w (PiecesPost w [0, 1]) := by
 go_enter Try.func85, Try.ntmps85
 go_wp2_with ((with_reducible refine gate_dst (N := 35) rfl ?_); refine Kd.R_lit (Kd.int .i64) _ 3 ?hg (N := 35) ?hd (xs := ([0, 1] : List Int)) (inner := [.int .i64 0, .int .i64 1]) (ok := fun _ => True) (okp := fun _ => True) ?hr ?hp (fun _ hk => hk) trivial (Below.refl _ _) (Nat.le_refl _) (by simp) ?_; (case hd => rfl); (case hg => rfl); (case hr => first | (go_simp; done) | (go_simp; rfl)); (case hp => exact (Reps.one (show Kd.M (Kd.int .i64) _ _ _ 0 [.int .i64 0] from rfl) (Reps.one (show Kd.M (Kd.int .i64) _ _ _ 1 [.int .i64 1] from rfl) (Reps.none _ _)))); intro v1 w3 ho4 hb hg_ hnew_; clear hg_ hnew_; have HO := Aside0.mk ho4; have HB := Aside0.mk hb; clear ho4 hb)
 go_ret
 exact ⟨_, rfl, Kd.R_mono HO.out (fun _ _ => by decide), HB.out⟩
theorem pieces_17 (w : World) : Calls Try.prog 85 #[.int .i64 17] w (PiecesPost w [0, 1]) := by
 go_enter Try.func85, Try.ntmps85
 go_wp2_with ((with_reducible refine gate_dst (N := 35) rfl ?_); refine Kd.R_lit (Kd.int .i64) _ 3 ?hg (N := 35) ?hd (xs := ([0, 1] : List Int)) (inner := [.int .i64 0, .int .i64 1]) (ok := fun _ => True) (okp := fun _ => True) ?hr ?hp (fun _ hk => hk) trivial (Below.refl _ _) (Nat.le_refl _) (by simp) ?_; (case hd => rfl); (case hg => rfl); (case hr => first | (go_simp; done) | (go_simp; rfl)); (case hp => exact (Reps.one (show Kd.M (Kd.int .i64) _ _ _ 0 [.int .i64 0] from rfl) (Reps.one (show Kd.M (Kd.int .i64) _ _ _ 1 [.int .i64 1] from rfl) (Reps.none _ _)))); intro v1 w3 ho4 hb hg_ hnew_; clear hg_ hnew_; have HO := Aside0.mk ho4; have HB := Aside0.mk hb; clear ho4 hb)
 go_ret
 exact ⟨_, rfl, Kd.R_mono HO.out (fun _ _ => by decide), HB.out⟩
theorem pieces_30 (w : World) : Calls Try.prog 85 #[.int .i64 30] w (PiecesPost w [0, 1]) := by
 go_enter Try.func85, Try.ntmps85
 go_wp2_with ((with_reducible refine gate_dst (N := 35) rfl ?_); refine Kd.R_lit (Kd.int .i64) _ 3 ?hg (N := 35) ?hd (xs := ([0, 1] : List Int)) (inner := [.int .i64 0, .int .i64 1]) (ok := fun _ => True) (okp := fun _ => True) ?hr ?hp (fun _ hk => hk) trivial (Below.refl _ _) (Nat.le_refl _) (by simp) ?_; (case hd => rfl); (case hg => rfl); (case hr => first | (go_simp; done) | (go_simp; rfl)); (case hp => exact (Reps.one (show Kd.M (Kd.int .i64) _ _ _ 0 [.int .i64 0] from rfl) (Reps.one (show Kd.M (Kd.int .i64) _ _ _ 1 [.int .i64 1] from rfl) (Reps.none _ _)))); intro v1 w3 ho4 hb hg_ hnew_; clear hg_ hnew_; have HO := Aside0.mk ho4; have HB := Aside0.mk hb; clear ho4 hb)
 go_ret
 exact ⟨_, rfl, Kd.R_mono HO.out (fun _ _ => by decide), HB.out⟩
theorem pieces_18 (w : World) : Calls Try.prog 85 #[.int .i64 18] w (PiecesPost w [1, 2]) := by
 go_enter Try.func85, Try.ntmps85
 go_wp2_with ((with_reducible refine gate_dst (N := 39) rfl ?_); refine Kd.R_lit (Kd.int .i64) _ 3 ?hg (N := 39) ?hd (xs := ([1, 2] : List Int)) (inner := [.int .i64 1, .int .i64 2]) (ok := fun _ => True) (okp := fun _ => True) ?hr ?hp (fun _ hk => hk) trivial (Below.refl _ _) (Nat.le_refl _) (by simp) ?_; (case hd => rfl); (case hg => rfl); (case hr => first | (go_simp; done) | (go_simp; rfl)); (case hp => exact (Reps.one (show Kd.M (Kd.int .i64) _ _ _ 1 [.int .i64 1] from rfl) (Reps.one (show Kd.M (Kd.int .i64) _ _ _ 2 [.int .i64 2] from rfl) (Reps.none _ _)))); intro v1 w3 ho4 hb hg_ hnew_; clear hg_ hnew_; have HO := Aside0.mk ho4; have HB := Aside0.mk hb; clear ho4 hb)
 go_ret
 exact ⟨_, rfl, Kd.R_mono HO.out (fun _ _ => by decide), HB.out⟩
theorem pieces_19 (w : World) : Calls Try.prog 85 #[.int .i64 19] w (PiecesPost w [1, 2]) := by
 go_enter Try.func85, Try.ntmps85
 go_wp2_with ((with_reducible refine gate_dst (N := 39) rfl ?_); refine Kd.R_lit (Kd.int .i64) _ 3 ?hg (N := 39) ?hd (xs := ([1, 2] : List Int)) (inner := [.int .i64 1, .int .i64 2]) (ok := fun _ => True) (okp := fun _ => True) ?hr ?hp (fun _ hk => hk) trivial (Below.refl _ _) (Nat.le_refl _) (by simp) ?_; (case hd => rfl); (case hg => rfl); (case hr => first | (go_simp; done) | (go_simp; rfl)); (case hp => exact (Reps.one (show Kd.M (Kd.int .i64) _ _ _ 1 [.int .i64 1] from rfl) (Reps.one (show Kd.M (Kd.int .i64) _ _ _ 2 [.int .i64 2] from rfl) (Reps.none _ _)))); intro v1 w3 ho4 hb hg_ hnew_; clear hg_ hnew_; have HO := Aside0.mk ho4; have HB := Aside0.mk hb; clear ho4 hb)
 go_ret
 exact ⟨_, rfl, Kd.R_mono HO.out (fun _ _ => by decide), HB.out⟩
theorem pieces_21 (w : World) : Calls Try.prog 85 #[.int .i64 21] w (PiecesPost w [0, 1, 3, 5]) := by
 go_enter Try.func85, Try.ntmps85
 go_wp2_with ((with_reducible refine gate_dst (N := 42) rfl ?_); refine Kd.R_lit (Kd.int .i64) _ 3 ?hg (N := 42) ?hd (xs := ([0, 1, 3, 5] : List Int)) (inner := [.int .i64 0, .int .i64 1, .int .i64 3, .int .i64 5]) (ok := fun _ => True) (okp := fun _ => True) ?hr ?hp (fun _ hk => hk) trivial (Below.refl _ _) (Nat.le_refl _) (by simp) ?_; (case hd => rfl); (case hg => rfl); (case hr => first | (go_simp; done) | (go_simp; rfl)); (case hp => exact (Reps.one (show Kd.M (Kd.int .i64) _ _ _ 0 [.int .i64 0] from rfl) (Reps.one (show Kd.M (Kd.int .i64) _ _ _ 1 [.int .i64 1] from rfl) (Reps.one (show Kd.M (Kd.int .i64) _ _ _ 3 [.int .i64 3] from rfl) (Reps.one (show Kd.M (Kd.int .i64) _ _ _ 5 [.int .i64 5] from rfl) (Reps.none _ _)))))); intro v1 w3 ho4 hb hg_ hnew_; clear hg_ hnew_; have HO := Aside0.mk ho4; have HB := Aside0.mk hb; clear ho4 hb)
 go_ret
 exact ⟨_, rfl, Kd.R_mono HO.out (fun _ _ => by decide), HB.out⟩
theorem pieces_22 (w : World) : Calls Try.prog 85 #[.int .i64 22] w (PiecesPost w [1]) := by
 go_enter Try.func85, Try.ntmps85
 go_wp2_with ((with_reducible refine gate_dst (N := 47) rfl ?_); refine Kd.R_lit (Kd.int .i64) _ 3 ?hg (N := 47) ?hd (xs := ([1] : List Int)) (inner := [.int .i64 1]) (ok := fun _ => True) (okp := fun _ => True) ?hr ?hp (fun _ hk => hk) trivial (Below.refl _ _) (Nat.le_refl _) (by simp) ?_; (case hd => rfl); (case hg => rfl); (case hr => first | (go_simp; done) | (go_simp; rfl)); (case hp => exact (Reps.one (show Kd.M (Kd.int .i64) _ _ _ 1 [.int .i64 1] from rfl) (Reps.none _ _))); intro v1 w3 ho4 hb hg_ hnew_; clear hg_ hnew_; have HO := Aside0.mk ho4; have HB := Aside0.mk hb; clear ho4 hb)
 go_ret
 exact ⟨_, rfl, Kd.R_mono HO.out (fun _ _ => by decide), HB.out⟩
theorem pieces_25 (w : World) : Calls Try.prog 85 #[.int .i64 25] w (PiecesPost w [1]) := by
 go_enter Try.func85, Try.ntmps85
 go_wp2_with ((with_reducible refine gate_dst (N := 47) rfl ?_); refine Kd.R_lit (Kd.int .i64) _ 3 ?hg (N := 47) ?hd (xs := ([1] : List Int)) (inner := [.int .i64 1]) (ok := fun _ => True) (okp := fun _ => True) ?hr ?hp (fun _ hk => hk) trivial (Below.refl _ _) (Nat.le_refl _) (by simp) ?_; (case hd => rfl); (case hg => rfl); (case hr => first | (go_simp; done) | (go_simp; rfl)); (case hp => exact (Reps.one (show Kd.M (Kd.int .i64) _ _ _ 1 [.int .i64 1] from rfl) (Reps.none _ _))); intro v1 w3 ho4 hb hg_ hnew_; clear hg_ hnew_; have HO := Aside0.mk ho4; have HB := Aside0.mk hb; clear ho4 hb)
 go_ret
 exact ⟨_, rfl, Kd.R_mono HO.out (fun _ _ => by decide), HB.out⟩
theorem pieces_28 (w : World) : Calls Try.prog 85 #[.int .i64 28] w (PiecesPost w [1]) := by
 go_enter Try.func85, Try.ntmps85
 go_wp2_with ((with_reducible refine gate_dst (N := 47) rfl ?_); refine Kd.R_lit (Kd.int .i64) _ 3 ?hg (N := 47) ?hd (xs := ([1] : List Int)) (inner := [.int .i64 1]) (ok := fun _ => True) (okp := fun _ => True) ?hr ?hp (fun _ hk => hk) trivial (Below.refl _ _) (Nat.le_refl _) (by simp) ?_; (case hd => rfl); (case hg => rfl); (case hr => first | (go_simp; done) | (go_simp; rfl)); (case hp => exact (Reps.one (show Kd.M (Kd.int .i64) _ _ _ 1 [.int .i64 1] from rfl) (Reps.none _ _))); intro v1 w3 ho4 hb hg_ hnew_; clear hg_ hnew_; have HO := Aside0.mk ho4; have HB := Aside0.mk hb; clear ho4 hb)
 go_ret
 exact ⟨_, rfl, Kd.R_mono HO.out (fun _ _ => by decide), HB.out⟩
theorem pieces_23 (w : World) : Calls Try.prog 85 #[.int .i64 23] w (PiecesPost w [3]) := by
 go_enter Try.func85, Try.ntmps85
 go_wp2_with ((with_reducible refine gate_dst (N := 51) rfl ?_); refine Kd.R_lit (Kd.int .i64) _ 3 ?hg (N := 51) ?hd (xs := ([3] : List Int)) (inner := [.int .i64 3]) (ok := fun _ => True) (okp := fun _ => True) ?hr ?hp (fun _ hk => hk) trivial (Below.refl _ _) (Nat.le_refl _) (by simp) ?_; (case hd => rfl); (case hg => rfl); (case hr => first | (go_simp; done) | (go_simp; rfl)); (case hp => exact (Reps.one (show Kd.M (Kd.int .i64) _ _ _ 3 [.int .i64 3] from rfl) (Reps.none _ _))); intro v1 w3 ho4 hb hg_ hnew_; clear hg_ hnew_; have HO := Aside0.mk ho4; have HB := Aside0.mk hb; clear ho4 hb)
 go_ret
 exact ⟨_, rfl, Kd.R_mono HO.out (fun _ _ => by decide), HB.out⟩
theorem pieces_29 (w : World) : Calls Try.prog 85 #[.int .i64 29] w (PiecesPost w [3]) := by
 go_enter Try.func85, Try.ntmps85
 go_wp2_with ((with_reducible refine gate_dst (N := 51) rfl ?_); refine Kd.R_lit (Kd.int .i64) _ 3 ?hg (N := 51) ?hd (xs := ([3] : List Int)) (inner := [.int .i64 3]) (ok := fun _ => True) (okp := fun _ => True) ?hr ?hp (fun _ hk => hk) trivial (Below.refl _ _) (Nat.le_refl _) (by simp) ?_; (case hd => rfl); (case hg => rfl); (case hr => first | (go_simp; done) | (go_simp; rfl)); (case hp => exact (Reps.one (show Kd.M (Kd.int .i64) _ _ _ 3 [.int .i64 3] from rfl) (Reps.none _ _))); intro v1 w3 ho4 hb hg_ hnew_; clear hg_ hnew_; have HO := Aside0.mk ho4; have HB := Aside0.mk hb; clear ho4 hb)
 go_ret
 exact ⟨_, rfl, Kd.R_mono HO.out (fun _ _ => by decide), HB.out⟩
theorem pieces_26 (w : World) : Calls Try.prog 85 #[.int .i64 26] w (PiecesPost w [6]) := by
 go_enter Try.func85, Try.ntmps85
 go_wp2_with ((with_reducible refine gate_dst (N := 54) rfl ?_); refine Kd.R_lit (Kd.int .i64) _ 3 ?hg (N := 54) ?hd (xs := ([6] : List Int)) (inner := [.int .i64 6]) (ok := fun _ => True) (okp := fun _ => True) ?hr ?hp (fun _ hk => hk) trivial (Below.refl _ _) (Nat.le_refl _) (by simp) ?_; (case hd => rfl); (case hg => rfl); (case hr => first | (go_simp; done) | (go_simp; rfl)); (case hp => exact (Reps.one (show Kd.M (Kd.int .i64) _ _ _ 6 [.int .i64 6] from rfl) (Reps.none _ _))); intro v1 w3 ho4 hb hg_ hnew_; clear hg_ hnew_; have HO := Aside0.mk ho4; have HB := Aside0.mk hb; clear ho4 hb)
 go_ret
 exact ⟨_, rfl, Kd.R_mono HO.out (fun _ _ => by decide), HB.out⟩
theorem pieces_27 (w : World) : Calls Try.prog 85 #[.int .i64 27] w (PiecesPost w [1, 7]) := by
 go_enter Try.func85, Try.ntmps85
 go_wp2_with ((with_reducible refine gate_dst (N := 57) rfl ?_); refine Kd.R_lit (Kd.int .i64) _ 3 ?hg (N := 57) ?hd (xs := ([1, 7] : List Int)) (inner := [.int .i64 1, .int .i64 7]) (ok := fun _ => True) (okp := fun _ => True) ?hr ?hp (fun _ hk => hk) trivial (Below.refl _ _) (Nat.le_refl _) (by simp) ?_; (case hd => rfl); (case hg => rfl); (case hr => first | (go_simp; done) | (go_simp; rfl)); (case hp => exact (Reps.one (show Kd.M (Kd.int .i64) _ _ _ 1 [.int .i64 1] from rfl) (Reps.one (show Kd.M (Kd.int .i64) _ _ _ 7 [.int .i64 7] from rfl) (Reps.none _ _)))); intro v1 w3 ho4 hb hg_ hnew_; clear hg_ hnew_; have HO := Aside0.mk ho4; have HB := Aside0.mk hb; clear ho4 hb)
 go_ret
 exact ⟨_, rfl, Kd.R_mono HO.out (fun _ _ => by decide), HB.out⟩
theorem pieces_none (n : Int) (w : World) (h : ¬ (n = 1 ∨ n = 2 ∨ n = 3 ∨ n = 4 ∨ n = 5 ∨ n = 6 ∨ n = 7 ∨ n = 8 ∨ n = 9 ∨ n = 10 ∨ n = 11 ∨ n = 12 ∨ n = 13 ∨ n = 14 ∨ n = 15 ∨ n = 16 ∨ n = 17 ∨ n = 18 ∨ n = 19 ∨ n = 21 ∨ n = 22 ∨ n = 23 ∨ n = 25 ∨ n = 26 ∨ n = 27 ∨ n = 28 ∨ n = 29 ∨ n = 30)) : Calls Try.prog 85 #[.int .i64 n] w (PiecesPost w []) := by
 simp only [not_or] at h
 obtain ⟨h1, h2, h3, h4, h5, h6, h7, h8, h9, h10, h11, h12, h13, h14, h15, h16, h17, h18, h19, h21, h22, h23, h25, h26, h27, h28, h29, h30⟩ := h
 have b1 : (n == 1) = false := beq_eq_false_iff_ne.mpr h1
 have b2 : (n == 2) = false := beq_eq_false_iff_ne.mpr h2
 have b3 : (n == 3) = false := beq_eq_false_iff_ne.mpr h3
 have b4 : (n == 4) = false := beq_eq_false_iff_ne.mpr h4
 have b5 : (n == 5) = false := beq_eq_false_iff_ne.mpr h5
 have b6 : (n == 6) = false := beq_eq_false_iff_ne.mpr h6
 have b7 : (n == 7) = false := beq_eq_false_iff_ne.mpr h7
 have b8 : (n == 8) = false := beq_eq_false_iff_ne.mpr h8
 have b9 : (n == 9) = false := beq_eq_false_iff_ne.mpr h9
 have b10 : (n == 10) = false := beq_eq_false_iff_ne.mpr h10
 have b11 : (n == 11) = false := beq_eq_false_iff_ne.mpr h11
 have b12 : (n == 12) = false := beq_eq_false_iff_ne.mpr h12
 have b13 : (n == 13) = false := beq_eq_false_iff_ne.mpr h13
 have b14 : (n == 14) = false := beq_eq_false_iff_ne.mpr h14
 have b15 : (n == 15) = false := beq_eq_false_iff_ne.mpr h15
 have b16 : (n == 16) = false := beq_eq_false_iff_ne.mpr h16
 have b17 : (n == 17) = false := beq_eq_false_iff_ne.mpr h17
 have b18 : (n == 18) = false := beq_eq_false_iff_ne.mpr h18
 have b19 : (n == 19) = false := beq_eq_false_iff_ne.mpr h19
 have b21 : (n == 21) = false := beq_eq_false_iff_ne.mpr h21
 have b22 : (n == 22) = false := beq_eq_false_iff_ne.mpr h22
 have b23 : (n == 23) = false := beq_eq_false_iff_ne.mpr h23
 have b25 : (n == 25) = false := beq_eq_false_iff_ne.mpr h25
 have b26 : (n == 26) = false := beq_eq_false_iff_ne.mpr h26
 have b27 : (n == 27) = false := beq_eq_false_iff_ne.mpr h27
 have b28 : (n == 28) = false := beq_eq_false_iff_ne.mpr h28
 have b29 : (n == 29) = false := beq_eq_false_iff_ne.mpr h29
 have b30 : (n == 30) = false := beq_eq_false_iff_ne.mpr h30
 clear h1 h2 h3 h4 h5 h6 h7 h8 h9 h10 h11 h12 h13 h14 h15 h16 h17 h18 h19 h21 h22 h23 h25 h26 h27 h28 h29 h30
 go_enter Try.func85, Try.ntmps85
 go_wp2
 go_ret
 exact ⟨_, rfl, Kd.R_nil _ _ _ _ _, Below.refl _ _⟩
theorem code_pieces.calls (a0 : Int) (r : List Int) (w : World) (h : code_pieces.f a0 = some r) :
  Calls Try.prog 85 #[.int .i64 a0] w fun e w' => ∃ v0_ : Value, e = .returned (v0_) ∧ Kd.R (Kd.int .i64) 3 w' w.heap.size (fun _ => r.length ≠ 0) v0_ r ∧ Below w.heap.size w w' := by
 obtain rfl := Option.some.inj h
 show Calls Try.prog 85 #[.int .i64 a0] w (PiecesPost w (piecesL a0))
 by_cases h : a0 = 1 ∨ a0 = 2 ∨ a0 = 3 ∨ a0 = 4 ∨ a0 = 5 ∨ a0 = 6 ∨ a0 = 7 ∨ a0 = 8 ∨ a0 = 9 ∨ a0 = 10 ∨ a0 = 11 ∨ a0 = 12 ∨ a0 = 13 ∨ a0 = 14 ∨ a0 = 15 ∨ a0 = 16 ∨ a0 = 17 ∨ a0 = 18 ∨ a0 = 19 ∨ a0 = 21 ∨ a0 = 22 ∨ a0 = 23 ∨ a0 = 25 ∨ a0 = 26 ∨ a0 = 27 ∨ a0 = 28 ∨ a0 = 29 ∨ a0 = 30
 ·rcases h with rfl | rfl | rfl | rfl | rfl | rfl | rfl | rfl | rfl | rfl | rfl | rfl | rfl | rfl | rfl | rfl | rfl | rfl | rfl | rfl | rfl | rfl | rfl | rfl | rfl | rfl | rfl | rfl
  ·exact pieces_1 w
  ·exact pieces_2 w
  ·exact pieces_3 w
  ·exact pieces_4 w
  ·exact pieces_5 w
  ·exact pieces_6 w
  ·exact pieces_7 w
  ·exact pieces_8 w
  ·exact pieces_9 w
  ·exact pieces_10 w
  ·exact pieces_11 w
  ·exact pieces_12 w
  ·exact pieces_13 w
  ·exact pieces_14 w
  ·exact pieces_15 w
  ·exact pieces_16 w
  ·exact pieces_17 w
  ·exact pieces_18 w
  ·exact pieces_19 w
  ·exact pieces_21 w
  ·exact pieces_22 w
  ·exact pieces_23 w
  ·exact pieces_25 w
  ·exact pieces_26 w
  ·exact pieces_27 w
  ·exact pieces_28 w
  ·exact pieces_29 w
  ·exact pieces_30 w
 ·have e : piecesL a0 = [] := by
   unfold piecesL
   simp only [not_or] at h
   simp [h]
  rw [e]
  exact pieces_none a0 w h
end Go.Proofs.Ytkgjbdbhpohkiaa.PLi
end
