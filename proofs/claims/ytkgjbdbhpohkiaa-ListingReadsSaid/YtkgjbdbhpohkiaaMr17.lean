import Derived.Test.YtkgjbdbhpohkiaaMr14
import Derived.Test.YtkgjbdbhpohkiaaMr10
import Derived.Test.YtkgjbdbhpohkiaaMr16
import Derived.Test.YtkgjbdbhpohkiaaMr2
import Derived.Test.YtkgjbdbhpohkiaaMr5
-- from YtkgjbdbhpohkiaaHLRead
section
namespace Go.Proofs.Ytkgjbdbhpohkiaa.PLi
open Go.RowKit Go.Proofs.YtkgjbdbhpohkiaaW.PrintWords Go.Proofs.YtkgjbdbhpohkiaaW.PrintLast Go.Proofs.YtkgjbdbhpohkiaaW.PrintMore Go.Proofs.Ytkgjbdbhpohkiaa.Str
set_option linter.unusedVariables false
set_option linter.unusedSimpArgs false
def rdLoop : Nat → List (S84) → List (S33) → Int → Int → Int → Int → Option (List (S33) × Int × Int × Int × Int)
 | 0, _, _, _, _, _, _ => none
 | k + 1, tl, acc, s1, s2, s3, s4 => if s3 = 0 ∧ s1 < (tl.length : Int) then (listing_reader_body.f k tl s1 s2 s3 s4).bind fun b => if acc.length < 1000000000000 then rdLoop k tl (acc ++ [⟨b.1, b.2.1, b.2.2.1⟩]) b.2.2.2.1 b.2.2.2.2.1 b.2.2.2.2.2.1 b.2.2.2.2.2.2 else none
  else some (acc, s1, s2, s3, s4)
def listing_Read.f (k : Nat) (a : ByteArray) : Option (List (S33) × Int × Int) :=
 (token_Split.f a).bind fun t => if t.2.1 = 0 then (rdLoop k t.1 [] 0 (a.size : Int) 0 0).bind fun o => if o.2.2.2.1 = 0 then (code_Check.f k o.1).bind fun e => if e.1 = 0 then some (o.1, 0, 0) else some ([], e.1, wrap64 ((a.size : Int) + e.2)) else some ([], o.2.2.2.1, o.2.2.2.2) else some ([], t.2.1, t.2.2)
structure RdAt (g b2 : Nat) (tl : List (S84)) (acc : List (S33)) (v : Value) (s1 s2 s3 s4 : Int) (w w0 w' : World) : Prop where
 i : IsS67 w0 w' g tl s1 s2 s3 s4
 b : Below w0.heap.size w0 w'
 wb : Below w.heap.size w w0
 lt : b2 < w0.heap.size
 ge : w.heap.size ≤ b2
 z0 : w0.heap[b2]? = some (.cells #[.int .i64 0, .int .i64 0] 26 (0, 0))
 row : Kd.R k33 33 w' w0.heap.size (fun _ => True) v acc
section
variable {g b2 : Nat} {tl : List (S84)} {acc : List (S33)} {v : Value} {s1 s2 s3 s4 r1 r2 r3 r4 : Int} {w w0 w1 w2 : World}
theorem RdAt.zero (h : RdAt g b2 tl acc v s1 s2 s3 s4 w w0 w1) : w1.heap[b2]? = some (.cells #[.int .i64 0, .int .i64 0] 26 (0, 0)) := (h.b.block b2 h.lt).trans h.z0
theorem RdAt.bel (h : RdAt g b2 tl acc v s1 s2 s3 s4 w w0 w1) : Below w.heap.size w w1 := below_step h.wb h.b
theorem RdAt.call (h : RdAt g b2 tl acc v s1 s2 s3 s4 w w0 w1) (hi : IsS67 w0 w2 g tl r1 r2 r3 r4) (hb : Below w0.heap.size w0 w2) (hk : KeepBut w1 w2 g none) : RdAt g b2 tl acc v r1 r2 r3 r4 w w0 w2 := by
 obtain ⟨A0, c0, hG, -, -⟩ := h.i
 exact ⟨hi, hb, h.wb, h.lt, h.ge, h.z0, rb_keep h.row hG (by decide) hk⟩
theorem RdAt.below (h : RdAt g b2 tl acc v s1 s2 s3 s4 w w0 w1) (hb : Below w1.heap.size w1 w2) : RdAt g b2 tl acc v s1 s2 s3 s4 w w0 w2 :=
 ⟨h.i.below hb, below_step h.b hb, h.wb, h.lt, h.ge, h.z0, Kd.R_below h.row hb⟩
theorem RdAt.app (h : RdAt g b2 tl acc v s1 s2 s3 s4 w w0 w1) {acc' : List (S33)} {v1 : Value} (hr : Kd.R k33 33 w2 w0.heap.size (fun _ => True) v1 acc') (hg : w1.grownBy w2 v.ownBlock) : RdAt g b2 tl acc' v1 s1 s2 s3 s4 w w0 w2 := by
 obtain ⟨A0, c0, hG, -, -⟩ := h.i
 have ng : some g ≠ v.ownBlock := Kd.R_ne h.row hG (by decide)
 exact ⟨h.i.grown hg ng, pw_below_grown h.b v.ownBlock h.b.size hg (fun k e => Kd.R_base h.row k e), h.wb, h.lt, h.ge, h.z0, hr⟩
end
set_option maxHeartbeats 8000000 in
set_option maxRecDepth 100000 in
theorem listing_Read.calls (k : Nat) (a : ByteArray) (r1 : List (S33)) (r2 r3 : Int) (w : World) (h : listing_Read.f k a = some (r1, r2, r3)) :
  Calls Try.prog 16 #[.string a] w fun e w' => ∃ v0_ : Value, e = .returned (.tuple #[v0_, .agg #[.int .i64 r2, .int .i64 r3]]) ∧ Kd.R k33 33 w' w.heap.size (fun _ => True) v0_ r1 ∧ Below w.heap.size w w' := by
 have hu33 := Try.underlying33
 have hu26 := Try.underlying26
 have hu67 := Try.underlying67
 unfold listing_Read.f at h
 replace h := Option.bind_eq_some_iff.mp h
 obtain ⟨⟨tl, t2, t3⟩, hs, h⟩ := h
 have HS := Aside0.mk hs
 have HH := Aside0.mk h
 clear hs h
 go_enter Try.func16, Try.ntmps16
 have HBZ := Aside0.mk (blk_new w (.cells #[.int .i64 0, .int .i64 0] 26))
 have HB := Aside0.mk (below_alloc (Below.refl w.heap.size w) (.cells #[.int .i64 0, .int .i64 0] 26))
 go_upto_region 1 with (fail)
 generalize w.alloc (.cells #[.int .i64 0, .int .i64 0] 26) = W0 at HBZ HB ⊢
 go_wp2_with fail
 refine (token_Split.calls a tl t2 t3 _ HS.out).mono ?_
 rintro e w1 ⟨v0, rfl, hr1, hb1⟩
 obtain ⟨A0, c0, e0, hl0, hC0⟩ := Kd.R_reads hr1
 subst e0
 have hbx := below_alloc (Below.refl w1.heap.size w1) (.cells #[.int .i64 t2, .int .i64 t3] 26)
 have HBE := Aside0.mk (blk_new w1 (.cells #[.int .i64 t2, .int .i64 t3] 26))
 have HBZ1 := Aside0.mk (blk_below (blk_below HBZ.out hb1) hbx)
 have HB1 := Aside0.mk (below_step (below_step HB.out hb1) hbx)
 have HC := Aside0.mk (Kd.C_below hC0 hbx)
 have HLC := Aside0.mk hl0
 have HLT := Aside0.mk (Nat.ne_of_lt (blk_lt (blk_below HBZ.out hb1)))
 clear hr1 hb1 hl0 hC0 hbx
 go_upto_if 16 with (fail)
 (try simp only [Act.put, List.setIfInBounds_toArray, List.set_cons_zero, List.set_cons_succ])
 generalize w1.alloc (.cells #[.int .i64 t2, .int .i64 t3] 26) = W1 at HBE HBZ1 HB1 HC ⊢
 have h := HH.out
 have k0_ := blk_cell HBE.out 0
 have k1_ := blk_cell HBE.out 1
 by_cases ct : t2 = 0
 rotate_left
 ·rw [if_neg ct] at h
  have ct0 : (t2 == 0) = false := beq_eq_false_iff_ne.mpr ct
  have ct1 : (t2 != 0) = true := bne_iff_ne.mpr ct
  (first | rw [ct1] | (simp only [i64_w, i32_w]; rw [ct1]) | skip)
  simp only [Option.some.injEq, Prod.mk.injEq] at h
  obtain ⟨rfl, rfl, rfl⟩ := h
  clear ct
  go_upto_region 3 with (fail)
  have z0_ : W1.drew.cell? ⟨w.heap.size, 0, none⟩ = some (.int .i64 0) := (blk_cell HBZ1.out 0)
  have z1_ : W1.drew.cell? ⟨w.heap.size, 1, none⟩ = some (.int .i64 0) := (blk_cell HBZ1.out 1)
  have f0_ : W1.drew.frozen? ⟨w.heap.size, 0, none⟩ = false := blk_frozen HBZ1.out 0
  have f1_ : W1.drew.frozen? ⟨w.heap.size, 1, none⟩ = false := blk_frozen HBZ1.out 1
  have z1'_ : W1.cell? ⟨w.heap.size, 1, none⟩ = some (.int .i64 0) := (blk_cell HBZ1.out 1)
  have f1'_ : W1.frozen? ⟨w.heap.size, 1, none⟩ = false := blk_frozen HBZ1.out 1
  refine start_ (n := 3) (S := fun w' => w'.cell? ⟨w1.heap.size, 0, none⟩ = some (.int .i64 t2) ∧ w'.cell? ⟨w1.heap.size, 1, none⟩ = some (.int .i64 t3)) (ds := [2]) #[false, false, false] (by kernel_rfl) rfl rfl ⟨k0_, k1_⟩ (fun hHeld => ?_)
  refine pure_ (i := 1) (N := some 2) (v := ?_) (a' := ?_) #[false, true, false] rfl rfl (by kernel_rfl) (fun _ _ _ h => h) (Or.inl ⟨by rfl, ?_⟩) ?_ ?_
  rotate_left
  ·intro w'
   go_simp
   with_reducible rfl
  rotate_left
  ·simp only [Act.put, List.setIfInBounds_toArray, List.set_cons_zero, List.set_cons_succ, i64_w, i32_w]
   rfl
  refine take_ (i := 0) (N := some 17) (v := ?_) (a' := ?_) #[true, true, false] rfl rfl (by kernel_rfl) (fun _ _ _ h => h) (Or.inl ⟨by rfl, ?_⟩) hHeld ?_ ?_
  rotate_left
  ·rintro w' ⟨s0, s1⟩
   go_simp
   with_reducible rfl
  rotate_left
  ·simp only [Act.put, List.setIfInBounds_toArray, List.set_cons_zero, List.set_cons_succ, i64_w, i32_w]
   rfl
  refine last_ (i := 2) (N := none) #[true, true, true] rfl rfl (by kernel_rfl) (by decide) (fun K hK => ?_)
  refine skip_ (w1 := ?_) (by rfl) rfl ?_ ?_
  rotate_left
  ·go_simp
   rfl
  refine hK.out _ _ ?_
  clear hK K
  refine done_ (by kernel_rfl) ?_
  have hz_ : ((W1.drew.setCell ⟨w.heap.size, 0, none⟩ (.int .i64 t2)).setCell ⟨w.heap.size, 1, none⟩ (.int .i64 t3)).heap[w.heap.size]? = some (.cells #[.int .i64 t2, .int .i64 t3] 26 (0, 0)) := blk_put (blk_put (show W1.drew.heap[w.heap.size]? = _ from HBZ1.out) 0 _ rfl) 1 _ rfl
  go_wp2
  (try simp only [Exit.inBlock, Exit.then])
  refine bodyPost_ret (results_tc rfl _ _ w.heap.size 26 #[.int .i64 t2, .int .i64 t3] (0, 0) _ rfl hz_ Try.underlying26 rfl (by kernel_rfl)) rfl ?_
  exact ⟨_, rfl, Kd.R_nil _ _ _ _ _, below_set (below_set (below_drew1 HB1.out) (Nat.le_refl _)) (Nat.le_refl _)⟩
 rw [if_pos ct] at h
 have ct0 : (t2 == 0) = true := beq_iff_eq.mpr ct
 have ct1 : (t2 != 0) = false := bne_eq_false_iff_eq.mpr ct
 (first | rw [ct1] | (simp only [i64_w, i32_w]; rw [ct1]) | skip)
 replace h := Option.bind_eq_some_iff.mp h
 obtain ⟨⟨cs, c1, c2, c3, c4⟩, hlo, h⟩ := h
 have HLO := Aside0.mk hlo
 have HR := Aside0.mk h
 clear ct hlo h HH
 have HX := Aside0.mk (show RdAt W1.heap.size w.heap.size tl [] (.slice none 0 0) 0 (a.size : Int) 0 0 w W1 (W1.alloc (.cells #[.slice A0 tl.length c0, .int .i64 0, .int .i64 (a.size : Int), .int .i64 0, .int .i64 0] 67)) from
  ⟨IsS67.new W1 W1 A0 c0 tl 0 (a.size : Int) 0 0 (Below.refl _ _) HC.out, below_alloc (Below.refl _ _) _, HB1.out, blk_lt HBZ1.out, Nat.le_refl _, HBZ1.out, Kd.R_nil _ _ _ _ _⟩)
 go_upto_region 5 with (fail)
 generalize W1.alloc (.cells #[.slice A0 tl.length c0, .int .i64 0, .int .i64 (a.size : Int), .int .i64 0, .int .i64 0] 67) = W2 at HX ⊢
 go_wp2
 (try simp only [Act.put, List.setIfInBounds_toArray, List.set_cons_zero, List.set_cons_succ])
 go_loopg [7] k (fun kq v7 w' => ∃ (acc : List (S33)) (s1 s2 s3 s4 : Int), Aside0 (rdLoop kq tl acc s1 s2 s3 s4 = some (cs, c1, c2, c3, c4)) ∧ Aside0 (kq ≤ k) ∧ Aside0 (RdAt W1.heap.size w.heap.size tl acc v7 s1 s2 s3 s4 w W1 w'))
 case atStart => exact ⟨_, _, _, _, _, ⟨HLO.out⟩, ⟨Nat.le_refl _⟩, ⟨HX.out⟩⟩
 case round =>
  clear HX k0_ k1_ HLO
  obtain ⟨acc, s1, s2, s3, s4, HLO, HKQ, HX⟩ := hrel
  obtain ⟨A7, c7, e7⟩ := Kd.R_slice HX.out.row
  subst e7
  obtain ⟨A1, c1_, hG, hg_, hS_⟩ := HX.out.i
  have hc1 := cellS67_1 hG
  have hc3 := cellS67_3 hG
  have hc4 := cellS67_4 hG
  clear hG hg_ hS_
  cases gk with
  | zero => exact absurd HLO.out (by simp [rdLoop])
  | succ k1 =>
   have hl := HLO.out
   simp only [rdLoop] at hl
   by_cases cl : s3 = 0 ∧ s1 < (tl.length : Int)
   ·rw [if_pos cl] at hl
    have g3 : (s3 == 0) = true := beq_iff_eq.mpr cl.1
    have g1 : decide (s1 < (tl.length : Int)) = true := decide_eq_true cl.2
    replace hl := Option.bind_eq_some_iff.mp hl
    obtain ⟨⟨b0, b1, b2, y1, y2, y3, y4⟩, hbo, hl⟩ := hl
    by_cases hlen : acc.length < 1000000000000
    rotate_left
    ·rw [if_neg hlen] at hl
     cases hl
    rw [if_pos hlen] at hl
    have HBO := Aside0.mk hbo
    have HLN := Aside0.mk hlen
    have HNX := Aside0.mk hl
    clear cl hbo hlen hl
    go_wp2_with fail
    refine (listing_reader_body.calls k1 _ tl s1 s2 s3 s4 b0 b1 b2 y1 y2 y3 y4 W1 _ HX.out.i HX.out.b HBO.out).mono ?_
    rintro e w3 ⟨v0, v2, rfl, hr0, hr2, hi3, hb3, hk3⟩
    obtain ⟨A5, c5, rfl⟩ := Kd.R_slice hr0
    obtain ⟨A6, c6, rfl⟩ := Kd.R_slice hr2
    have HX3 := Aside0.mk (HX.out.call hi3 hb3 hk3)
    have HR0 := Aside0.mk (Kd.R_lower hr0 HX.out.b.size)
    have HR2_ := Aside0.mk (Kd.R_lower hr2 HX.out.b.size)
    clear hr0 hr2 hi3 hb3 hk3 HX hc1 hc3 hc4
    go_wp2_with (first | ((with_reducible refine gate_builtin (b := .append) (xs := #[.tmp 38, .tmp 41]) rfl ?_); at_builtin; refine Kd.R_append k33 (w0 := w3) W1.heap.size rfl (.tmp 38) (.tmp 41) 22 33 (.agg #[.slice none 0 0, .int .i64 0, .slice none 0 0]) 56 rfl Try.underlying22 (by kernel_rfl) rfl (by decide) (by omega) (.slice A7 acc.length c7) acc (⟨b0, b1, b2⟩ : S33) [.slice A5 b0.length c5, .int .i64 b1, .slice A6 b2.length c6] (fun _ => True) (fun k => True ∧ some k ≠ (Value.slice A7 acc.length c7).ownBlock) rfl rfl (k33_mkM _ _ _ (⟨b0, b1, b2⟩ : S33) (Kd.R_apart' HR0.out (Kd.R_typed HX3.out.row) (by decide)) (Kd.R_apart' HR2_.out (Kd.R_typed HX3.out.row) (by decide))) (fun k hk => ⟨trivial, hk.2⟩) (fun k hk => trivial) HX3.out.row (Below.refl _ _) HX3.out.b.size (by have := HLN.out; omega) ?_; intro v1 w4_ hr4 hb4 hg4 hv4; have HX9 := Aside0.mk (HX3.out.app hr4 hg4); clear hr4 hb4 hg4 hv4))
    go_wp2
    go_roundg k1
    case measure => have := HKQ.out; omega
    case rel => exact ⟨_, _, _, _, _, ⟨HNX.out⟩, ⟨by have := HKQ.out; omega⟩, ⟨HX9.out⟩⟩
   ·rw [if_neg cl] at hl
    simp only [Option.some.injEq, Prod.mk.injEq] at hl
    obtain ⟨rfl, rfl, rfl, rfl, rfl⟩ := hl
    have h := HR.out
    by_cases c3z : s3 = 0
    ·have g3 : (s3 == 0) = true := beq_iff_eq.mpr c3z
     have g3' : (s3 != 0) = false := bne_eq_false_iff_eq.mpr c3z
     have g1 : decide (s1 < (tl.length : Int)) = false := decide_eq_false (fun e => cl ⟨c3z, e⟩)
     rw [if_pos c3z] at h
     replace h := Option.bind_eq_some_iff.mp h
     obtain ⟨⟨e1, e2⟩, he, h⟩ := h
     obtain ⟨A8, c8, e8, hl8, hC8⟩ := Kd.R_reads HX.out.row
     injection e8 with e8 _ e9
     subst e8
     subst e9
     have HE := Aside0.mk he
     have HC8 := Aside0.mk hC8
     have HL8 := Aside0.mk hl8
     have HR2 := Aside0.mk h
     clear cl c3z he hC8 hl8 h
     go_wp2_with fail
     refine (code_Check.calls k A7 c7 acc e1 e2 _ HC8.out HL8.out HE.out).mono ?_
     rintro e w4 ⟨rfl, hb4⟩
     have hx4 := HX.out.below hb4
     have HX4 := Aside0.mk (hx4.below (below_alloc (Below.refl _ _) (.cells #[.int .i64 e1, .int .i64 e2] 26)))
     have HBX := Aside0.mk (blk_new w4 (.cells #[.int .i64 e1, .int .i64 e2] 26))
     have HLT4 := Aside0.mk (show w.heap.size ≠ w4.heap.size from Nat.ne_of_lt (blk_lt hx4.zero))
     clear hb4 hx4 HX hc1 hc3 hc4
     go_upto_region 11 with (fail)
     generalize w4.alloc (.cells #[.int .i64 e1, .int .i64 e2] 26) = W5 at HX4 HBX ⊢
     have j0_ := blk_cell HBX.out 0
     have j1_ := blk_cell HBX.out 1
     have h := HR2.out
     by_cases ce : e1 = 0
     ·rw [if_pos ce] at h
      have g5 : (e1 == 0) = true := beq_iff_eq.mpr ce
      have g5' : (e1 != 0) = false := bne_eq_false_iff_eq.mpr ce
      simp only [Option.some.injEq, Prod.mk.injEq] at h
      obtain ⟨rfl, rfl, rfl⟩ := h
      have z0_ := blk_cell HX4.out.zero 0
      have z1_ := blk_cell HX4.out.zero 1
      have f0_ := blk_frozen HX4.out.zero 0
      have f1_ := blk_frozen HX4.out.zero 1
      have hz_ : ((W5.setCell ⟨w.heap.size, 0, none⟩ (.int .i64 0)).setCell ⟨w.heap.size, 1, none⟩ (.int .i64 0)).heap[w.heap.size]? = some (.cells #[.int .i64 0, .int .i64 0] 26 (0, 0)) := blk_put (blk_put HX4.out.zero 0 _ rfl) 1 _ rfl
      have HZZ := Aside0.mk hz_
      have HBB := Aside0.mk (below_set (below_set HX4.out.bel (g := w.heap.size) (j := 0) (v := .int .i64 0) (Nat.le_refl _)) (g := w.heap.size) (j := 1) (v := .int .i64 0) (Nat.le_refl _))
      have HRR := Aside0.mk (Kd.R_set (Kd.R_set HX4.out.row HX4.out.zero (by decide) 0 (.int .i64 0)) (blk_put HX4.out.zero 0 (.int .i64 0) rfl) (by decide) 1 (.int .i64 0))
      clear hz_ ce
      go_wp2
      (try simp only [Exit.inBlock, Exit.then])
      refine bodyPost_ret (results_tc rfl _ _ w.heap.size 26 #[.int .i64 0, .int .i64 0] (0, 0) _ rfl HZZ.out Try.underlying26 rfl (by kernel_rfl)) rfl ?_
      exact ⟨_, rfl, Kd.R_lower HRR.out (below_size HB1.out), HBB.out⟩
     ·rw [if_neg ce] at h
      have g5 : (e1 == 0) = false := beq_eq_false_iff_ne.mpr ce
      have g5' : (e1 != 0) = true := bne_iff_ne.mpr ce
      simp only [Option.some.injEq, Prod.mk.injEq] at h
      obtain ⟨rfl, rfl, rfl⟩ := h
      clear ce
      go_upto_region 12 with (fail)
      have z0_ : W5.drew.cell? ⟨w.heap.size, 0, none⟩ = some (.int .i64 0) := (blk_cell HX4.out.zero 0)
      have z1_ : W5.drew.cell? ⟨w.heap.size, 1, none⟩ = some (.int .i64 0) := (blk_cell HX4.out.zero 1)
      have f0_ : W5.drew.frozen? ⟨w.heap.size, 0, none⟩ = false := blk_frozen HX4.out.zero 0
      have f1_ : W5.drew.frozen? ⟨w.heap.size, 1, none⟩ = false := blk_frozen HX4.out.zero 1
      have z1'_ : W5.cell? ⟨w.heap.size, 1, none⟩ = some (.int .i64 0) := (blk_cell HX4.out.zero 1)
      have f1'_ : W5.frozen? ⟨w.heap.size, 1, none⟩ = false := blk_frozen HX4.out.zero 1
      refine start_ (n := 10) (S := fun w' => w'.cell? ⟨w4.heap.size, 0, none⟩ = some (.int .i64 e1) ∧ w'.cell? ⟨w4.heap.size, 1, none⟩ = some (.int .i64 e2)) (ds := [9]) #[false, false, false, false, false, false, false, false, false, false] (by kernel_rfl) rfl rfl ⟨j0_, j1_⟩ (fun hHeld => ?_)
      refine pure_ (i := 0) (N := some 58) (v := ?_) (a' := ?_) #[true, false, false, false, false, false, false, false, false, false] rfl rfl (by kernel_rfl) (fun _ _ _ h => h) (Or.inl ⟨by rfl, ?_⟩) ?_ ?_
      rotate_left
      ·intro w'
       go_simp
       with_reducible rfl
      rotate_left
      ·simp only [Act.put, List.setIfInBounds_toArray, List.set_cons_zero, List.set_cons_succ, i64_w, i32_w]
       rfl
      refine pure_ (i := 2) (N := some 60) (v := ?_) (a' := ?_) #[true, false, true, false, false, false, false, false, false, false] rfl rfl (by kernel_rfl) (fun _ _ _ h => h) (Or.inl ⟨by rfl, ?_⟩) ?_ ?_
      rotate_left
      ·intro w'
       go_simp
       with_reducible rfl
      rotate_left
      ·simp only [Act.put, List.setIfInBounds_toArray, List.set_cons_zero, List.set_cons_succ, i64_w, i32_w]
       rfl
      refine pure_ (i := 3) (N := some 61) (v := ?_) (a' := ?_) #[true, false, true, true, false, false, false, false, false, false] rfl rfl (by kernel_rfl) (fun _ _ _ h => h) (Or.inl ⟨by rfl, ?_⟩) ?_ ?_
      rotate_left
      ·intro w'
       go_simp
       with_reducible rfl
      rotate_left
      ·simp only [Act.put, List.setIfInBounds_toArray, List.set_cons_zero, List.set_cons_succ, i64_w, i32_w]
       rfl
      refine pure_ (i := 4) (N := some 62) (v := ?_) (a' := ?_) #[true, false, true, true, true, false, false, false, false, false] rfl rfl (by kernel_rfl) (fun _ _ _ h => h) (Or.inl ⟨by rfl, ?_⟩) ?_ ?_
      rotate_left
      ·intro w'
       go_simp
       with_reducible rfl
      rotate_left
      ·simp only [Act.put, List.setIfInBounds_toArray, List.set_cons_zero, List.set_cons_succ, i64_w, i32_w]
       rfl
      refine pure_ (i := 8) (N := some 2) (v := ?_) (a' := ?_) #[true, false, true, true, true, false, false, false, true, false] rfl rfl (by kernel_rfl) (fun _ _ _ h => h) (Or.inl ⟨by rfl, ?_⟩) ?_ ?_
      rotate_left
      ·intro w'
       go_simp
       with_reducible rfl
      rotate_left
      ·simp only [Act.put, List.setIfInBounds_toArray, List.set_cons_zero, List.set_cons_succ, i64_w, i32_w]
       rfl
      refine take_ (i := 1) (N := some 59) (v := ?_) (a' := ?_) #[true, true, true, true, true, false, false, false, true, false] rfl rfl (by kernel_rfl) (fun _ _ _ h => h) (Or.inl ⟨by rfl, ?_⟩) hHeld ?_ ?_
      rotate_left
      ·rintro w' ⟨s0, s1⟩
       go_simp
       with_reducible rfl
      rotate_left
      ·simp only [Act.put, List.setIfInBounds_toArray, List.set_cons_zero, List.set_cons_succ, i64_w, i32_w]
       rfl
      refine take_ (i := 5) (N := some 63) (v := ?_) (a' := ?_) #[true, true, true, true, true, true, false, false, true, false] rfl rfl (by kernel_rfl) (fun _ _ _ h => h) (Or.inl ⟨by rfl, ?_⟩) hHeld ?_ ?_
      rotate_left
      ·rintro w' ⟨s0, s1⟩
       go_simp
       with_reducible rfl
      rotate_left
      ·simp only [Act.put, List.setIfInBounds_toArray, List.set_cons_zero, List.set_cons_succ, i64_w, i32_w]
       rfl
      refine pure_ (i := 6) (N := some 64) (v := ?_) (a' := ?_) #[true, true, true, true, true, true, true, false, true, false] rfl rfl (by kernel_rfl) (fun _ _ _ h => h) (Or.inl ⟨by rfl, ?_⟩) ?_ ?_
      rotate_left
      ·intro w'
       go_simp
       with_reducible rfl
      rotate_left
      ·simp only [Act.put, List.setIfInBounds_toArray, List.set_cons_zero, List.set_cons_succ, i64_w, i32_w]
       rfl
      refine pure_ (i := 7) (N := some 65) (v := ?_) (a' := ?_) #[true, true, true, true, true, true, true, true, true, false] rfl rfl (by kernel_rfl) (fun _ _ _ h => h) (Or.inl ⟨by rfl, ?_⟩) ?_ ?_
      rotate_left
      ·intro w'
       go_simp
       with_reducible rfl
      rotate_left
      ·simp only [Act.put, List.setIfInBounds_toArray, List.set_cons_zero, List.set_cons_succ, i64_w, i32_w]
       rfl
      refine last_ (i := 9) (N := none) #[true, true, true, true, true, true, true, true, true, true] rfl rfl (by kernel_rfl) (by decide) (fun K hK => ?_)
      refine skip_ (w1 := ?_) (by rfl) rfl ?_ ?_
      rotate_left
      ·go_simp
       rfl
      refine hK.out _ _ ?_
      clear hK K
      refine done_ (by kernel_rfl) ?_
      have hz_ : ((W5.drew.setCell ⟨w.heap.size, 0, none⟩ (.int .i64 e1)).setCell ⟨w.heap.size, 1, none⟩ (.int .i64 (wrap64 ((a.size : Int) + e2)))).heap[w.heap.size]? = some (.cells #[.int .i64 e1, .int .i64 (wrap64 ((a.size : Int) + e2))] 26 (0, 0)) := blk_put (blk_put (show W5.drew.heap[w.heap.size]? = _ from HX4.out.zero) 0 _ rfl) 1 _ rfl
      go_wp2
      (try simp only [Exit.inBlock, Exit.then])
      refine bodyPost_ret (results_tc rfl _ _ w.heap.size 26 #[.int .i64 e1, .int .i64 (wrap64 ((a.size : Int) + e2))] (0, 0) _ rfl hz_ Try.underlying26 rfl (by kernel_rfl)) rfl ?_
      exact ⟨_, rfl, Kd.R_nil _ _ _ _ _, below_set (below_set (below_drew1 HX4.out.bel) (Nat.le_refl _)) (Nat.le_refl _)⟩
    ·have g3 : (s3 == 0) = false := beq_eq_false_iff_ne.mpr c3z
     have g3' : (s3 != 0) = true := bne_iff_ne.mpr c3z
     rw [if_neg c3z] at h
     simp only [Option.some.injEq, Prod.mk.injEq] at h
     obtain ⟨rfl, rfl, rfl⟩ := h
     clear cl c3z
     go_upto_region 9 with (fail)
     have z0_ : wr.drew.cell? ⟨w.heap.size, 0, none⟩ = some (.int .i64 0) := (blk_cell HX.out.zero 0)
     have z1_ : wr.drew.cell? ⟨w.heap.size, 1, none⟩ = some (.int .i64 0) := (blk_cell HX.out.zero 1)
     have f0_ : wr.drew.frozen? ⟨w.heap.size, 0, none⟩ = false := blk_frozen HX.out.zero 0
     have f1_ : wr.drew.frozen? ⟨w.heap.size, 1, none⟩ = false := blk_frozen HX.out.zero 1
     have z1'_ : wr.cell? ⟨w.heap.size, 1, none⟩ = some (.int .i64 0) := (blk_cell HX.out.zero 1)
     have f1'_ : wr.frozen? ⟨w.heap.size, 1, none⟩ = false := blk_frozen HX.out.zero 1
     refine start_ (n := 6) (S := fun w' => w'.cell? ⟨W1.heap.size, 3, none⟩ = some (.int .i64 s3) ∧ w'.cell? ⟨W1.heap.size, 4, none⟩ = some (.int .i64 s4)) (ds := [5]) #[false, false, false, false, false, false] (by kernel_rfl) rfl rfl ⟨hc3, hc4⟩ (fun hHeld => ?_)
     refine pure_ (i := 0) (N := some 49) (v := ?_) (a' := ?_) #[true, false, false, false, false, false] rfl rfl (by kernel_rfl) (fun _ _ _ h => h) (Or.inl ⟨by rfl, ?_⟩) ?_ ?_
     rotate_left
     ·intro w'
      go_simp
      with_reducible rfl
     rotate_left
     ·simp only [Act.put, List.setIfInBounds_toArray, List.set_cons_zero, List.set_cons_succ, i64_w, i32_w]
      rfl
     refine pure_ (i := 1) (N := some 50) (v := ?_) (a' := ?_) #[true, true, false, false, false, false] rfl rfl (by kernel_rfl) (fun _ _ _ h => h) (Or.inl ⟨by rfl, ?_⟩) ?_ ?_
     rotate_left
     ·intro w'
      go_simp
      with_reducible rfl
     rotate_left
     ·simp only [Act.put, List.setIfInBounds_toArray, List.set_cons_zero, List.set_cons_succ, i64_w, i32_w]
      rfl
     refine pure_ (i := 2) (N := some 51) (v := ?_) (a' := ?_) #[true, true, true, false, false, false] rfl rfl (by kernel_rfl) (fun _ _ _ h => h) (Or.inl ⟨by rfl, ?_⟩) ?_ ?_
     rotate_left
     ·intro w'
      go_simp
      with_reducible rfl
     rotate_left
     ·simp only [Act.put, List.setIfInBounds_toArray, List.set_cons_zero, List.set_cons_succ, i64_w, i32_w]
      rfl
     refine pure_ (i := 4) (N := some 2) (v := ?_) (a' := ?_) #[true, true, true, false, true, false] rfl rfl (by kernel_rfl) (fun _ _ _ h => h) (Or.inl ⟨by rfl, ?_⟩) ?_ ?_
     rotate_left
     ·intro w'
      go_simp
      with_reducible rfl
     rotate_left
     ·simp only [Act.put, List.setIfInBounds_toArray, List.set_cons_zero, List.set_cons_succ, i64_w, i32_w]
      rfl
     refine take_ (i := 3) (N := some 52) (v := ?_) (a' := ?_) #[true, true, true, true, true, false] rfl rfl (by kernel_rfl) (fun _ _ _ h => h) (Or.inl ⟨by rfl, ?_⟩) hHeld ?_ ?_
     rotate_left
     ·rintro w' ⟨s0, s1⟩
      go_simp
      with_reducible rfl
     rotate_left
     ·simp only [Act.put, List.setIfInBounds_toArray, List.set_cons_zero, List.set_cons_succ, i64_w, i32_w]
      rfl
     refine last_ (i := 5) (N := none) #[true, true, true, true, true, true] rfl rfl (by kernel_rfl) (by decide) (fun K hK => ?_)
     refine skip_ (w1 := ?_) (by rfl) rfl ?_ ?_
     rotate_left
     ·go_simp
      rfl
     refine hK.out _ _ ?_
     clear hK K
     refine done_ (by kernel_rfl) ?_
     have hz_ : ((wr.drew.setCell ⟨w.heap.size, 0, none⟩ (.int .i64 s3)).setCell ⟨w.heap.size, 1, none⟩ (.int .i64 s4)).heap[w.heap.size]? = some (.cells #[.int .i64 s3, .int .i64 s4] 26 (0, 0)) := blk_put (blk_put (show wr.drew.heap[w.heap.size]? = _ from HX.out.zero) 0 _ rfl) 1 _ rfl
     go_wp2
     (try simp only [Exit.inBlock, Exit.then])
     refine bodyPost_ret (results_tc rfl _ _ w.heap.size 26 #[.int .i64 s3, .int .i64 s4] (0, 0) _ rfl hz_ Try.underlying26 rfl (by kernel_rfl)) rfl ?_
     exact ⟨_, rfl, Kd.R_nil _ _ _ _ _, below_set (below_set (below_drew1 HX.out.bel) (Nat.le_refl _)) (Nat.le_refl _)⟩
end Go.Proofs.Ytkgjbdbhpohkiaa.PLi
end
-- from YtkgjbdbhpohkiaaHLText
section
namespace Go.Proofs.Ytkgjbdbhpohkiaa.PLi
open Go.RowKit Go.Proofs.YtkgjbdbhpohkiaaW.PrintWords Go.Proofs.YtkgjbdbhpohkiaaW.PrintLast Go.Proofs.YtkgjbdbhpohkiaaW.PrintMore Go.Proofs.Ytkgjbdbhpohkiaa.Str
set_option linter.unusedVariables false
set_option linter.unusedSimpArgs false
def instS (k : Nat) (x : S37) : Option ByteArray := listing_Inst.f k x.f0 x.f1 x.f2 x.f3 x.f4 x.f5 x.f6.f0 x.f6.f1
def lineS (s : ByteArray) : ByteArray := ((⟨#[32, 32]⟩ : ByteArray) ++ s) ++ (⟨#[10]⟩ : ByteArray)
def liCode (k : Nat) : ByteArray → List (S37) → Option ByteArray
 | acc, [] => some acc
 | acc, x :: xs => (instS k x).bind fun s => if acc.size + (s.size + 3) ≤ 140737488355328 then liCode k (acc ++ lineS s) xs else none
def headS (ps z : ByteArray) : ByteArray := ((((⟨#[98, 111, 100, 121, 32]⟩ : ByteArray) ++ ps) ++ (⟨#[32]⟩ : ByteArray)) ++ z) ++ (⟨#[32, 123, 10]⟩ : ByteArray)
def liText (k : Nat) : ByteArray → List (S33) → Option ByteArray
 | acc, [] => some acc
 | acc, x :: xs => (listing_list.f k x.f0).bind fun ps => (digits_Small.f x.f1).bind fun z => if acc.size + (ps.size + z.size + 9) ≤ 140737488355328 then
   (liCode k (acc ++ headS ps z) x.f2).bind fun acc2 => if acc2.size + 2 ≤ 140737488355328 then liText k (acc2 ++ (⟨#[125, 10]⟩ : ByteArray)) xs else none else none
def listing_Text.f (k : Nat) (l : List (S33)) : Option ByteArray := if l.length ≤ 140737488355328 ∧ ∀ x ∈ l, x.f2.length ≤ 140737488355328 then liText k (⟨#[]⟩ : ByteArray) l else none
theorem isbF_below {T e : TypeId} {B b : Nat} {bs : List Value} {w w1 : World} (h : Lib.IsBuilderF T e B b bs w) (hb : Below w.heap.size w w1) : Lib.IsBuilderF T e B b bs w1 := by
 rcases h with ⟨h1, v, h2, h3, h4⟩ | ⟨h1, v, h2, h3, h4⟩
 ·exact .inl ⟨h1, v, blk_below h2 hb, h3.kept (grown_of_below hb none) (by cases v.ownBlock <;> simp), h4⟩
 ·exact .inr ⟨h1, v, blk_below h2 hb, h3.kept (grown_of_below hb none) (by cases v.ownBlock <;> simp), h4⟩
theorem strCells_app (a b : ByteArray) : Lib.strCells (a ++ b) = Lib.strCells a ++ Lib.strCells b := by
 unfold Lib.strCells
 rw [← List.map_append]
 congr 1
 all_goals simp
theorem strCells_len (a : ByteArray) : (Lib.strCells a).length = a.size := by
 unfold Lib.strCells
 rw [List.length_map, size_data]
structure TxAt (acc : ByteArray) (w w' : World) : Prop where
 bu : Lib.IsBuilderF 56 5 w.heap.size w.heap.size (Lib.strCells acc) w'
 bel : Below w.heap.size w w'
theorem TxAt.below {acc : ByteArray} {w w' w2 : World} (h : TxAt acc w w') (hb : Below w'.heap.size w' w2) : TxAt acc w w2 := ⟨isbF_below h.bu hb, below_step h.bel hb⟩
theorem TxAt.lt {acc : ByteArray} {w w' : World} (h : TxAt acc w w') : w.heap.size < w'.heap.size := h.bu.elim (fun x => x.lt) (fun x => x.lt)
theorem TxAt.drew {acc : ByteArray} {w w' : World} (h : TxAt acc w w') : TxAt acc w w'.drew := h.below (below_drew1 (Below.refl _ _))
theorem tx_write {acc : ByteArray} {w w' : World} (s : ByteArray) (h : TxAt acc w w') (hs : acc.size + s.size ≤ 140737488355328) :
  Calls Try.prog 34 #[.pointer (some ⟨w.heap.size, 0, none⟩), .string s] w' fun e w2 => e = .returned (.tuple #[.int .i64 s.size, .nilIface]) ∧ TxAt (acc ++ s) w w2 ∧ Lib.OthersKept 5 (some w.heap.size) w' w2 := by
 refine (builder_Write w.heap.size w.heap.size _ s w' h.bu (by rw [strCells_len]; exact hs) h.bel.size).mono ?_
 rintro e w2 ⟨h1, h2, h3, h4⟩
 exact ⟨h1, ⟨by rw [strCells_app]; exact h2, h.bel.trans h3⟩, h4⟩
theorem tx_round (k : Nat) (acc r : ByteArray) (l : List S33) (x : Int) (h0 : 0 ≤ x) (h1 : x < (l.length : Int)) (h : liText k acc (l.drop x.toNat) = some r) :
  ∃ ps z acc2, listing_list.f k (rd_T33 l x).f0 = some ps ∧ digits_Small.f (rd_T33 l x).f1 = some z ∧ acc.size + (ps.size + z.size + 9) ≤ 140737488355328 ∧ liCode k (acc ++ headS ps z) (rd_T33 l x).f2 = some acc2 ∧ acc2.size + 2 ≤ 140737488355328 ∧ liText k (acc2 ++ (⟨#[125, 10]⟩ : ByteArray)) (l.drop (x + 1).toNat) = some r := by
 obtain ⟨n, rfl⟩ := Int.eq_ofNat_of_zero_le h0
 have hn : n < l.length := by omega
 have e1 : ((n : Int) + 1).toNat = n + 1 := by omega
 have e2 : rd_T33 l (n : Int) = l[n] := by unfold rd_T33; rw [Int.toNat_natCast, List.getD_eq_getElem?_getD, List.getElem?_eq_getElem hn]; rfl
 rw [Int.toNat_natCast, List.drop_eq_getElem_cons hn] at h
 rw [e1, e2]
 obtain ⟨ps, hp, h⟩ := Option.bind_eq_some_iff.mp h
 obtain ⟨z, hz, h⟩ := Option.bind_eq_some_iff.mp h
 by_cases hs : acc.size + (ps.size + z.size + 9) ≤ 140737488355328
 ·rw [if_pos hs] at h
  obtain ⟨acc2, ha, h⟩ := Option.bind_eq_some_iff.mp h
  by_cases hs2 : acc2.size + 2 ≤ 140737488355328
  ·rw [if_pos hs2] at h
   exact ⟨ps, z, acc2, hp, hz, hs, ha, hs2, h⟩
  ·rw [if_neg hs2] at h
   cases h
 ·rw [if_neg hs] at h
  cases h
theorem code_round (k : Nat) (acc r : ByteArray) (l : List S37) (x : Int) (h0 : 0 ≤ x) (h1 : x < (l.length : Int)) (h : liCode k acc (l.drop x.toNat) = some r) :
  ∃ s, instS k (rd_T37 l x) = some s ∧ acc.size + (s.size + 3) ≤ 140737488355328 ∧ liCode k (acc ++ lineS s) (l.drop (x + 1).toNat) = some r := by
 obtain ⟨n, rfl⟩ := Int.eq_ofNat_of_zero_le h0
 have hn : n < l.length := by omega
 have e1 : ((n : Int) + 1).toNat = n + 1 := by omega
 have e2 : rd_T37 l (n : Int) = l[n] := by unfold rd_T37; rw [Int.toNat_natCast, List.getD_eq_getElem?_getD, List.getElem?_eq_getElem hn]; rfl
 rw [Int.toNat_natCast, List.drop_eq_getElem_cons hn] at h
 rw [e1, e2]
 obtain ⟨s, hp, h⟩ := Option.bind_eq_some_iff.mp h
 by_cases hs : acc.size + (s.size + 3) ≤ 140737488355328
 ·rw [if_pos hs] at h
  exact ⟨s, hp, hs, h⟩
 ·rw [if_neg hs] at h
  cases h
set_option maxHeartbeats 8000000 in
set_option maxRecDepth 100000 in
theorem listing_Text.calls (k : Nat) (A0 : Option Addr) (c0 : Nat) (l0 : List (S33)) (r : ByteArray) (w : World) (hr0 : Kd.C k33 w A0 l0.length l0) (hc0 : l0.length ≤ c0) (h : listing_Text.f k l0 = some r) :
  Calls Try.prog 14 #[.slice A0 l0.length c0] w fun e w' => e = .returned (.string r) ∧ Below w.heap.size w w' := by
 have hu33 := Try.underlying33
 have hu37 := Try.underlying37
 unfold listing_Text.f at h
 by_cases hg : l0.length ≤ 140737488355328 ∧ ∀ x ∈ l0, x.f2.length ≤ 140737488355328
 rotate_left
 ·rw [if_neg hg] at h
  cases h
 rw [if_pos hg] at h
 have HG := Aside0.mk hg
 have HH := Aside0.mk h
 have HR0 := Aside0.mk hr0
 clear hg h hr0
 have h0 : TxAt (⟨#[]⟩ : ByteArray) w (w.alloc (.cells #[.pointer none, .slice none 0 0] 56)) := ⟨.of (Lib.fresh_isBuilder _ _ w), below_alloc (Below.refl _ _) _⟩
 go_enter Try.func14, Try.ntmps14
 go_upto_region 2 with (fail)
 generalize w.alloc (.cells #[.pointer none, .slice none 0 0] 56) = W0 at h0 ⊢
 have H0 := Aside0.mk h0
 clear h0
 go_wp2
 go_loopg [10] l0.length (fun kq v10 w' => ∃ (x : Int) (acc : ByteArray), v10 = .int .i64 x ∧ Aside0 (0 ≤ x ∧ x ≤ (l0.length : Int)) ∧ Aside0 (liText k acc (l0.drop x.toNat) = some r) ∧ Aside0 (TxAt acc w w') ∧ Aside0 (kq = l0.length - x.toNat))
 case atStart => exact ⟨0, _, rfl, ⟨by omega⟩, ⟨HH.out⟩, ⟨H0.out⟩, ⟨rfl⟩⟩
 case round =>
  clear H0
  obtain ⟨x, acc, rfl, HI, HX, HT, HQ⟩ := hrel
  by_cases hi : x < (l0.length : Int)
  ·obtain ⟨ps, z, acc2, hps, hz, hsz, hcode, hsz2, hrest⟩ := tx_round k acc r l0 x HI.out.1 hi HX.out
   obtain ⟨ad, A1, c1, A2, c2, e12, x0, x1, x2, l1, g1, l2, g2⟩ := at_T33 HR0.out x HI.out.1 hi
   cases e12
   replace x0 := (HT.out.bel.cell (World.block_lt_of_cell? w _ x0)).trans x0
   replace x1 := (HT.out.bel.cell (World.block_lt_of_cell? w _ x1)).trans x1
   replace x2 := (HT.out.bel.cell (World.block_lt_of_cell? w _ x2)).trans x2
   have hin : (rd_T33 l0 x).f2.length ≤ 140737488355328 := HG.out.2 _ (by
    obtain ⟨n, rfl⟩ := Int.eq_ofNat_of_zero_le HI.out.1
    have hn : n < l0.length := by omega
    have e2 : rd_T33 l0 (n : Int) = l0[n] := by unfold rd_T33; rw [Int.toNat_natCast, List.getD_eq_getElem?_getD, List.getElem?_eq_getElem hn]; rfl
    rw [e2]
    exact List.getElem_mem hn)
   have HIN := Aside0.mk hin
   have HXI := Aside0.mk (show x + 1 ≤ (l0.length : Int) by omega)
   have p1 : (0 ≤ x) = True := eq_true HI.out.1
   have q1 : (x < (l0.length : Int)) = True := eq_true hi
   have d1 : decide (x < (l0.length : Int)) = true := decide_eq_true hi
   have HPS := Aside0.mk hps
   have HZ := Aside0.mk hz
   have HSZ := Aside0.mk hsz
   have HCO := Aside0.mk hcode
   have HSZ2 := Aside0.mk hsz2
   have HRE := Aside0.mk hrest
   have HL1 := Aside0.mk l1
   have HG1 := Aside0.mk g1
   have HL2 := Aside0.mk l2
   have HG2 := Aside0.mk g2
   clear hi hps hz hsz hcode hsz2 hrest l1 g1 l2 g2 hin HX
   generalize rd_T33 l0 x = y at *
   have hbox := blk_new wr (.cells #[.slice A1 y.f0.length c1, .int .i64 y.f1, .slice A2 y.f2.length c2] 33)
   have HT1 := Aside0.mk (HT.out.below (below_alloc (Below.refl _ _) (.cells #[.slice A1 y.f0.length c1, .int .i64 y.f1, .slice A2 y.f2.length c2] 33)))
   have HBX := Aside0.mk hbox
   clear hbox
   go_upto_region 5 with (fail)
   generalize wr.alloc (.cells #[.slice A1 y.f0.length c1, .int .i64 y.f1, .slice A2 y.f2.length c2] 33) = W1 at HT1 HBX ⊢
   have HT2 := Aside0.mk HT1.out.drew
   clear x0 x1 x2
   have cab0 : (⟨#[98, 111, 100, 121, 32]⟩ : ByteArray).size + ps.size ≤ 9223372036854775807 := by
    have := HSZ.out
    simp only [ByteArray.size_append, show ((⟨#[98, 111, 100, 121, 32]⟩ : ByteArray)).size = 5 from rfl]
    omega
   have cab1 : decide ((⟨#[98, 111, 100, 121, 32]⟩ : ByteArray).size + ps.size ≤ 9223372036854775807) = true := decide_eq_true cab0
   have cab2 : (9223372036854775807 < (⟨#[98, 111, 100, 121, 32]⟩ : ByteArray).size + ps.size) = False := eq_false (Nat.not_lt.2 cab0)
   have cab3 := cab2
   try simp only [ByteArray.size_append, show ((⟨#[98, 111, 100, 121, 32]⟩ : ByteArray)).size = 5 from rfl] at cab3
   replace cab0 := eq_true cab0
   have cbb0 : ((⟨#[98, 111, 100, 121, 32]⟩ : ByteArray) ++ ps).size + (⟨#[32]⟩ : ByteArray).size ≤ 9223372036854775807 := by
    have := HSZ.out
    simp only [ByteArray.size_append, show ((⟨#[98, 111, 100, 121, 32]⟩ : ByteArray)).size = 5 from rfl, show ((⟨#[32]⟩ : ByteArray)).size = 1 from rfl]
    omega
   have cbb1 : decide (((⟨#[98, 111, 100, 121, 32]⟩ : ByteArray) ++ ps).size + (⟨#[32]⟩ : ByteArray).size ≤ 9223372036854775807) = true := decide_eq_true cbb0
   have cbb2 : (9223372036854775807 < ((⟨#[98, 111, 100, 121, 32]⟩ : ByteArray) ++ ps).size + (⟨#[32]⟩ : ByteArray).size) = False := eq_false (Nat.not_lt.2 cbb0)
   have cbb3 := cbb2
   try simp only [ByteArray.size_append, show ((⟨#[98, 111, 100, 121, 32]⟩ : ByteArray)).size = 5 from rfl, show ((⟨#[32]⟩ : ByteArray)).size = 1 from rfl] at cbb3
   replace cbb0 := eq_true cbb0
   have ccb0 : (((⟨#[98, 111, 100, 121, 32]⟩ : ByteArray) ++ ps) ++ (⟨#[32]⟩ : ByteArray)).size + z.size ≤ 9223372036854775807 := by
    have := HSZ.out
    simp only [ByteArray.size_append, show ((⟨#[98, 111, 100, 121, 32]⟩ : ByteArray)).size = 5 from rfl, show ((⟨#[32]⟩ : ByteArray)).size = 1 from rfl]
    omega
   have ccb1 : decide ((((⟨#[98, 111, 100, 121, 32]⟩ : ByteArray) ++ ps) ++ (⟨#[32]⟩ : ByteArray)).size + z.size ≤ 9223372036854775807) = true := decide_eq_true ccb0
   have ccb2 : (9223372036854775807 < (((⟨#[98, 111, 100, 121, 32]⟩ : ByteArray) ++ ps) ++ (⟨#[32]⟩ : ByteArray)).size + z.size) = False := eq_false (Nat.not_lt.2 ccb0)
   have ccb3 := ccb2
   try simp only [ByteArray.size_append, show ((⟨#[98, 111, 100, 121, 32]⟩ : ByteArray)).size = 5 from rfl, show ((⟨#[32]⟩ : ByteArray)).size = 1 from rfl] at ccb3
   replace ccb0 := eq_true ccb0
   have cdb0 : ((((⟨#[98, 111, 100, 121, 32]⟩ : ByteArray) ++ ps) ++ (⟨#[32]⟩ : ByteArray)) ++ z).size + (⟨#[32, 123, 10]⟩ : ByteArray).size ≤ 9223372036854775807 := by
    have := HSZ.out
    simp only [ByteArray.size_append, show ((⟨#[98, 111, 100, 121, 32]⟩ : ByteArray)).size = 5 from rfl, show ((⟨#[32]⟩ : ByteArray)).size = 1 from rfl, show ((⟨#[32, 123, 10]⟩ : ByteArray)).size = 3 from rfl]
    omega
   have cdb1 : decide (((((⟨#[98, 111, 100, 121, 32]⟩ : ByteArray) ++ ps) ++ (⟨#[32]⟩ : ByteArray)) ++ z).size + (⟨#[32, 123, 10]⟩ : ByteArray).size ≤ 9223372036854775807) = true := decide_eq_true cdb0
   have cdb2 : (9223372036854775807 < ((((⟨#[98, 111, 100, 121, 32]⟩ : ByteArray) ++ ps) ++ (⟨#[32]⟩ : ByteArray)) ++ z).size + (⟨#[32, 123, 10]⟩ : ByteArray).size) = False := eq_false (Nat.not_lt.2 cdb0)
   have cdb3 := cdb2
   try simp only [ByteArray.size_append, show ((⟨#[98, 111, 100, 121, 32]⟩ : ByteArray)).size = 5 from rfl, show ((⟨#[32]⟩ : ByteArray)).size = 1 from rfl, show ((⟨#[32, 123, 10]⟩ : ByteArray)).size = 3 from rfl] at cdb3
   replace cdb0 := eq_true cdb0
   refine start_ (n := 11) (S := fun w' => w'.cell? ⟨wr.heap.size, 0, none⟩ = some (.slice A1 y.f0.length c1) ∧ w'.cell? ⟨wr.heap.size, 1, none⟩ = some (.int .i64 y.f1)) (ds := [10]) #[false, false, false, false, false, false, false, false, false, false, false] (by kernel_rfl) rfl rfl ⟨(blk_cell (Aside0.mk (blk_drew HBX.out)).out 0).trans rfl, (blk_cell (Aside0.mk (blk_drew HBX.out)).out 1).trans rfl⟩ (fun hHeld => ?_)
   refine pure_ (i := 0) (N := some 14) (v := ?_) (a' := ?_) #[true, false, false, false, false, false, false, false, false, false, false] rfl rfl (by kernel_rfl) (fun _ _ _ h => h) (Or.inl ⟨by rfl, ?_⟩) ?_ ?_
   rotate_left
   ·intro w'
    go_simp
    with_reducible rfl
   rotate_left
   ·simp only [Act.put, List.setIfInBounds_toArray, List.set_cons_zero, List.set_cons_succ, i64_w, i32_w]
    rfl
   refine pure_ (i := 5) (N := some 19) (v := ?_) (a' := ?_) #[true, false, false, false, false, true, false, false, false, false, false] rfl rfl (by kernel_rfl) (fun _ _ _ h => h) (Or.inl ⟨by rfl, ?_⟩) ?_ ?_
   rotate_left
   ·intro w'
    go_simp
    with_reducible rfl
   rotate_left
   ·simp only [Act.put, List.setIfInBounds_toArray, List.set_cons_zero, List.set_cons_succ, i64_w, i32_w]
    rfl
   refine take_ (i := 1) (N := some 15) (v := ?_) (a' := ?_) #[true, true, false, false, false, true, false, false, false, false, false] rfl rfl (by kernel_rfl) (fun _ _ _ h => h) (Or.inl ⟨by rfl, ?_⟩) hHeld ?_ ?_
   rotate_left
   ·rintro w' ⟨s0, s1⟩
    go_simp
    with_reducible rfl
   rotate_left
   ·simp only [Act.put, List.setIfInBounds_toArray, List.set_cons_zero, List.set_cons_succ, i64_w, i32_w]
    rfl
   refine take_ (i := 6) (N := some 20) (v := ?_) (a' := ?_) #[true, true, false, false, false, true, true, false, false, false, false] rfl rfl (by kernel_rfl) (fun _ _ _ h => h) (Or.inl ⟨by rfl, ?_⟩) hHeld ?_ ?_
   rotate_left
   ·rintro w' ⟨s0, s1⟩
    go_simp
    with_reducible rfl
   rotate_left
   ·simp only [Act.put, List.setIfInBounds_toArray, List.set_cons_zero, List.set_cons_succ, i64_w, i32_w]
    rfl
   refine one_ (i := 2) (N := some 16) #[true, true, true, false, false, true, true, false, false, false, false] rfl rfl (by kernel_rfl) (by decide) (fun K hK => ?_)
   refine goes_ Try.func27 (by kernel_rfl) rfl #[.slice A1 y.f0.length c1] (by rfl) rfl rfl (by simp only [List.map_toArray, List.map_cons, List.map_nil]; rfl) ?_
   with_reducible refine (listing_list.calls k A1 c1 y.f0 ps _ (Kd.C_below HG1.out HT2.out.bel) HL1.out HPS.out).mono ?_
   rintro e w3 ⟨rfl, hb3⟩
   refine ⟨_, rfl, ?_⟩
   have HT3 := Aside0.mk (HT2.out.below hb3)
   have HB3 := Aside0.mk (blk_below (blk_drew HBX.out) hb3)
   clear hb3
   refine hK.out _ _ ⟨(blk_cell HB3.out 0).trans rfl, (blk_cell HB3.out 1).trans rfl⟩ (fun hHeld => ?_)
   clear hK K
   refine norm_ (a' := ?_) ?_ ?_
   rotate_left
   ·show Act.put _ (some 16) _ = _
    simp only [Act.put, List.setIfInBounds_toArray, List.set_cons_zero, List.set_cons_succ, i64_w, i32_w]
    rfl
   refine pure_ (i := 3) (N := some 17) (v := ?_) (a' := ?_) #[true, true, true, true, false, true, true, false, false, false, false] rfl rfl (by kernel_rfl) (fun _ _ _ h => h) (Or.inl ⟨by rfl, ?_⟩) ?_ ?_
   rotate_left
   ·intro w'
    go_simp
    with_reducible rfl
   rotate_left
   ·simp only [Act.put, List.setIfInBounds_toArray, List.set_cons_zero, List.set_cons_succ, i64_w, i32_w]
    rfl
   refine pure_ (i := 4) (N := some 18) (v := ?_) (a' := ?_) #[true, true, true, true, true, true, true, false, false, false, false] rfl rfl (by kernel_rfl) (fun _ _ _ h => h) (Or.inl ⟨by rfl, ?_⟩) ?_ ?_
   rotate_left
   ·intro w'
    go_simp
    with_reducible rfl
   rotate_left
   ·simp only [Act.put, List.setIfInBounds_toArray, List.set_cons_zero, List.set_cons_succ, i64_w, i32_w]
    rfl
   refine one_ (i := 7) (N := some 21) #[true, true, true, true, true, true, true, true, false, false, false] rfl rfl (by kernel_rfl) (by decide) (fun K hK => ?_)
   refine goes_ Try.func25 (by kernel_rfl) rfl #[.int .i64 y.f1] (by rfl) rfl rfl (by simp only [List.map_toArray, List.map_cons, List.map_nil]; rfl) ?_
   with_reducible refine (digits_Small.calls y.f1 z _ HZ.out).mono ?_
   rintro e w4 ⟨rfl, hb4⟩
   refine ⟨_, rfl, ?_⟩
   have HT4 := Aside0.mk (HT3.out.below hb4)
   have HB4 := Aside0.mk (blk_below HB3.out hb4)
   clear hb4
   refine hK.out _ _ ⟨(blk_cell HB4.out 0).trans rfl, (blk_cell HB4.out 1).trans rfl⟩ (fun hHeld => ?_)
   clear hK K
   refine norm_ (a' := ?_) ?_ ?_
   rotate_left
   ·show Act.put _ (some 21) _ = _
    simp only [Act.put, List.setIfInBounds_toArray, List.set_cons_zero, List.set_cons_succ, i64_w, i32_w]
    rfl
   refine pure_ (i := 8) (N := some 22) (v := ?_) (a' := ?_) #[true, true, true, true, true, true, true, true, true, false, false] rfl rfl (by kernel_rfl) (fun _ _ _ h => h) (Or.inl ⟨by rfl, ?_⟩) ?_ ?_
   rotate_left
   ·intro w'
    go_simp
    with_reducible rfl
   rotate_left
   ·simp only [Act.put, List.setIfInBounds_toArray, List.set_cons_zero, List.set_cons_succ, i64_w, i32_w]
    rfl
   refine pure_ (i := 9) (N := some 23) (v := ?_) (a' := ?_) #[true, true, true, true, true, true, true, true, true, true, false] rfl rfl (by kernel_rfl) (fun _ _ _ h => h) (Or.inl ⟨by rfl, ?_⟩) ?_ ?_
   rotate_left
   ·intro w'
    go_simp
    with_reducible rfl
   rotate_left
   ·simp only [Act.put, List.setIfInBounds_toArray, List.set_cons_zero, List.set_cons_succ, i64_w, i32_w]
    rfl
   refine last_ (i := 10) (N := some 24) #[true, true, true, true, true, true, true, true, true, true, true] rfl rfl (by kernel_rfl) (by decide) (fun K hK => ?_)
   refine goes_ Try.func34 (by kernel_rfl) rfl #[.pointer (some ⟨w.heap.size, 0, none⟩), .string (headS ps z)] (by rfl) rfl rfl (by simp only [List.map_toArray, List.map_cons, List.map_nil]; rfl) ?_
   with_reducible refine (tx_write (headS ps z) HT4.out (by have := HSZ.out; unfold headS; simp only [ByteArray.size_append, show ((⟨#[98, 111, 100, 121, 32]⟩ : ByteArray)).size = 5 from rfl, show ((⟨#[32]⟩ : ByteArray)).size = 1 from rfl, show ((⟨#[32, 123, 10]⟩ : ByteArray)).size = 3 from rfl]; omega)).mono ?_
   rintro e w5 ⟨rfl, ht5, hk5⟩
   refine ⟨_, rfl, ?_⟩
   have HT5 := Aside0.mk ht5
   have HB5 := Aside0.mk (hk5 _ _ HB4.out (by intro e; have := HT.out.lt; injection e with e; omega) (by intro c fz e; cases e))
   clear ht5 hk5
   refine hK.out _ _ ?_
   clear hK K
   refine norm_ (a' := ?_) ?_ ?_
   rotate_left
   ·show Act.put _ (some 24) _ = _
    simp only [Act.put, List.setIfInBounds_toArray, List.set_cons_zero, List.set_cons_succ, i64_w, i32_w]
    rfl
   refine done_ (by kernel_rfl) ?_
   have y2 : w5.cell? ⟨wr.heap.size, 2, none⟩ = some (.slice A2 y.f2.length c2) := (blk_cell HB5.out 2).trans rfl
   go_upto_region 7 with (fail)
   go_wp2
   go_loopg [28] y.f2.length (fun kq v28 w' => ∃ (x' : Int) (ac : ByteArray), v28 = .int .i64 x' ∧ Aside0 (0 ≤ x' ∧ x' ≤ (y.f2.length : Int)) ∧ Aside0 (liCode k ac (y.f2.drop x'.toNat) = some acc2) ∧ Aside0 (TxAt ac w w') ∧ Aside0 (kq = y.f2.length - x'.toNat))
   case atStart => exact ⟨0, _, rfl, ⟨by omega⟩, ⟨HCO.out⟩, ⟨HT5.out⟩, ⟨rfl⟩⟩
   case round =>
    clear HT2 HT3 HT4 HT5 HB3 HB4 HB5 HBX HT1 HT
    obtain ⟨x', ac, rfl, HJ, HY, HV, HR⟩ := hrel
    by_cases hj : x' < (y.f2.length : Int)
    ·obtain ⟨s, hs, hss, hnext⟩ := code_round k ac acc2 y.f2 x' HJ.out.1 hj HY.out
     obtain ⟨ad2, A3, c3, e13, z0, z1, z2, z3, z4, z5, z6, z7, l3, g3⟩ := at_T37 HG2.out x' HJ.out.1 hj
     cases e13
     replace z0 := (HV.out.bel.cell (World.block_lt_of_cell? w _ z0)).trans z0
     replace z1 := (HV.out.bel.cell (World.block_lt_of_cell? w _ z1)).trans z1
     replace z2 := (HV.out.bel.cell (World.block_lt_of_cell? w _ z2)).trans z2
     replace z3 := (HV.out.bel.cell (World.block_lt_of_cell? w _ z3)).trans z3
     replace z4 := (HV.out.bel.cell (World.block_lt_of_cell? w _ z4)).trans z4
     replace z5 := (HV.out.bel.cell (World.block_lt_of_cell? w _ z5)).trans z5
     replace z6 := (HV.out.bel.cell (World.block_lt_of_cell? w _ z6)).trans z6
     replace z7 := (HV.out.bel.cell (World.block_lt_of_cell? w _ z7)).trans z7
     have p2 : (0 ≤ x') = True := eq_true HJ.out.1
     have q2 : (x' < (y.f2.length : Int)) = True := eq_true hj
     have d2 : decide (x' < (y.f2.length : Int)) = true := decide_eq_true hj
     have HXJ := Aside0.mk (show x' + 1 ≤ (y.f2.length : Int) by omega)
     have HS := Aside0.mk hs
     have HSS := Aside0.mk hss
     have HNX := Aside0.mk hnext
     have HL3 := Aside0.mk l3
     have HG3 := Aside0.mk g3
     clear hj hs hss hnext l3 g3 HY
     unfold instS at HS
     generalize rd_T37 y.f2 x' = u at *
     have HV1 := Aside0.mk (HV.out.below (below_alloc (Below.refl _ _) (.cells #[.int .i64 u.f0, .int .i64 u.f1, .int .i64 u.f2, .int .i64 u.f3, .int .i64 u.f4, .slice A3 u.f5.length c3, .int .i64 u.f6.f0, .int .i64 u.f6.f1] 37)))
     have HBX := Aside0.mk (blk_new wr (.cells #[.int .i64 u.f0, .int .i64 u.f1, .int .i64 u.f2, .int .i64 u.f3, .int .i64 u.f4, .slice A3 u.f5.length c3, .int .i64 u.f6.f0, .int .i64 u.f6.f1] 37))
     go_upto_region 9 with (fail)
     generalize wr.alloc (.cells #[.int .i64 u.f0, .int .i64 u.f1, .int .i64 u.f2, .int .i64 u.f3, .int .i64 u.f4, .slice A3 u.f5.length c3, .int .i64 u.f6.f0, .int .i64 u.f6.f1] 37) = W2 at HV1 HBX ⊢
     clear z0 z1 z2 z3 z4 z5 z6 z7
     have z0 : W2.cell? ⟨wr.heap.size, 0, none⟩ = some (.int .i64 u.f0) := (blk_cell HBX.out 0).trans rfl
     have z1 : W2.cell? ⟨wr.heap.size, 1, none⟩ = some (.int .i64 u.f1) := (blk_cell HBX.out 1).trans rfl
     have z2 : W2.cell? ⟨wr.heap.size, 2, none⟩ = some (.int .i64 u.f2) := (blk_cell HBX.out 2).trans rfl
     have z3 : W2.cell? ⟨wr.heap.size, 3, none⟩ = some (.int .i64 u.f3) := (blk_cell HBX.out 3).trans rfl
     have z4 : W2.cell? ⟨wr.heap.size, 4, none⟩ = some (.int .i64 u.f4) := (blk_cell HBX.out 4).trans rfl
     have z5 : W2.cell? ⟨wr.heap.size, 5, none⟩ = some (.slice A3 u.f5.length c3) := (blk_cell HBX.out 5).trans rfl
     have z6 : W2.cell? ⟨wr.heap.size, 6, none⟩ = some (.int .i64 u.f6.f0) := (blk_cell HBX.out 6).trans rfl
     have z7 : W2.cell? ⟨wr.heap.size, 7, none⟩ = some (.int .i64 u.f6.f1) := (blk_cell HBX.out 7).trans rfl
     have ceb0 : (⟨#[32, 32]⟩ : ByteArray).size + s.size ≤ 9223372036854775807 := by
      have := HSS.out
      simp only [ByteArray.size_append, show ((⟨#[32, 32]⟩ : ByteArray)).size = 2 from rfl]
      omega
     have ceb1 : decide ((⟨#[32, 32]⟩ : ByteArray).size + s.size ≤ 9223372036854775807) = true := decide_eq_true ceb0
     have ceb2 : (9223372036854775807 < (⟨#[32, 32]⟩ : ByteArray).size + s.size) = False := eq_false (Nat.not_lt.2 ceb0)
     have ceb3 := ceb2
     try simp only [ByteArray.size_append, show ((⟨#[32, 32]⟩ : ByteArray)).size = 2 from rfl] at ceb3
     replace ceb0 := eq_true ceb0
     have cfb0 : ((⟨#[32, 32]⟩ : ByteArray) ++ s).size + (⟨#[10]⟩ : ByteArray).size ≤ 9223372036854775807 := by
      have := HSS.out
      simp only [ByteArray.size_append, show ((⟨#[32, 32]⟩ : ByteArray)).size = 2 from rfl, show ((⟨#[10]⟩ : ByteArray)).size = 1 from rfl]
      omega
     have cfb1 : decide (((⟨#[32, 32]⟩ : ByteArray) ++ s).size + (⟨#[10]⟩ : ByteArray).size ≤ 9223372036854775807) = true := decide_eq_true cfb0
     have cfb2 : (9223372036854775807 < ((⟨#[32, 32]⟩ : ByteArray) ++ s).size + (⟨#[10]⟩ : ByteArray).size) = False := eq_false (Nat.not_lt.2 cfb0)
     have cfb3 := cfb2
     try simp only [ByteArray.size_append, show ((⟨#[32, 32]⟩ : ByteArray)).size = 2 from rfl, show ((⟨#[10]⟩ : ByteArray)).size = 1 from rfl] at cfb3
     replace cfb0 := eq_true cfb0
     go_wp2_with fail
     refine (listing_Inst.calls k u.f0 u.f1 u.f2 u.f3 u.f4 A3 c3 u.f5 u.f6.f0 u.f6.f1 s _ (Kd.C_below HG3.out HV1.out.bel) HL3.out HS.out).mono ?_
     rintro e w6 ⟨rfl, hb6⟩
     have HV6 := Aside0.mk (HV1.out.below hb6)
     clear hb6
     go_wp2_with fail
     refine (tx_write (lineS s) HV6.out (by have := HSS.out; unfold lineS; simp only [ByteArray.size_append, show (⟨#[32, 32]⟩ : ByteArray).size = 2 from rfl, show (⟨#[10]⟩ : ByteArray).size = 1 from rfl]; omega)).mono ?_
     rintro e w7 ⟨rfl, ht7, -⟩
     have HV7 := Aside0.mk ht7
     clear ht7
     go_wp2
     go_roundg (y.f2.length - (x' + 1).toNat)
     case measure => have := HR.out; have := HXJ.out; have := HJ.out; omega
     case rel => exact ⟨x' + 1, _, by rw [show wrap64 (x' + 1) = x' + 1 from w64 (by have := HJ.out; omega) (by have := HXJ.out; have := HIN.out; omega)], ⟨by have := HXJ.out; have := HJ.out; omega⟩, ⟨HNX.out⟩, ⟨HV7.out⟩, ⟨rfl⟩⟩
    ·have hd : y.f2.drop x'.toNat = [] := List.drop_eq_nil_of_le (by have := HJ.out; omega)
     have hy := HY.out
     rw [hd] at hy
     obtain rfl := Option.some.inj hy
     have d2 : decide (x' < (y.f2.length : Int)) = false := decide_eq_false hj
     clear hj hd hy HY
     go_wp2_with fail
     refine (tx_write (⟨#[125, 10]⟩ : ByteArray) HV.out HSZ2.out).mono ?_
     rintro e w7 ⟨rfl, ht7, -⟩
     have HV7 := Aside0.mk ht7
     clear ht7
     go_wp2
     go_roundg (l0.length - (x + 1).toNat)
     case measure => have := HQ.out; have := HXI.out; have := HI.out; omega
     case rel => exact ⟨x + 1, _, by rw [show wrap64 (x + 1) = x + 1 from w64 (by have := HI.out; omega) (by have := HXI.out; have := HG.out.1; omega)], ⟨by have := HXI.out; have := HI.out; omega⟩, ⟨HRE.out⟩, ⟨HV7.out⟩, ⟨rfl⟩⟩
  ·have hd : l0.drop x.toNat = [] := List.drop_eq_nil_of_le (by have := HI.out; omega)
   have hy := HX.out
   rw [hd] at hy
   obtain rfl := Option.some.inj hy
   have d1 : decide (x < (l0.length : Int)) = false := decide_eq_false hi
   clear hi hd hy HX
   go_wp2_with fail
   refine (builder_String w.heap.size w.heap.size acc.data.toList _ (by rw [show Lib.byteCells acc.data.toList = Lib.strCells acc from rfl]; exact HT.out.bu) HT.out.bel.size).mono ?_
   rintro e w7 ⟨rfl, hb7⟩
   have HB7 := Aside0.mk (HT.out.bel.trans hb7)
   clear hb7
   go_wp2
   go_ret
   exact ⟨rfl, HB7.out⟩
end Go.Proofs.Ytkgjbdbhpohkiaa.PLi
end
-- from YtkgjbdbhpohkiaaPLix1
section
namespace Go.Proofs.Ytkgjbdbhpohkiaa.PLi
open Go.RowKit Go.Proofs.YtkgjbdbhpohkiaaW.PrintWords Go.Proofs.YtkgjbdbhpohkiaaW.PrintLast Go.Proofs.YtkgjbdbhpohkiaaW.PrintMore Go.Proofs.Ytkgjbdbhpohkiaa.Zip
attribute [local go_sem] max2_int min2_int max_two min_two max_three min_three max_four min_four   -- for this text's walks alone
set_option linter.unusedVariables false
set_option linter.unusedSimpArgs false
def r33_all.l0 : Nat → List Int → Int → Int → Option (Bool)
 | 0, _, _, _ => none
 | k + 1, x0, x1, x5 => if x5 < (x0.length : Int) then (if 0 ≤ x5 then (if (rd x0 x5) < 0 then (some false) else (if (rd x0 x5) ≥ x1 then (some false) else (r33_all.l0 k x0 x1 (wrap64 (x5 + 1))))) else (none)) else (some (decide ((x0.length : Int) ≤ 8)))
def r33_all.f (k : Nat) (l0 : List Int) (a1 : Int) : Option (Bool) := r33_all.l0 k l0 a1 0
set_option maxHeartbeats 8000000 in
set_option maxRecDepth 100000 in
theorem r33_all.calls (k : Nat) (A0 : Option Addr) (c0 : Nat) (l0 : List Int) (a1 : Int) (r : Bool) (w : World) (hr0 : Kd.C (Kd.int .i64) w A0 l0.length l0) (hc0 : l0.length ≤ c0) (h : r33_all.f k l0 a1 = some r) :
  Calls Try.prog 43 #[.slice A0 l0.length c0, .int .i64 a1] w fun e w' => e = .returned (.bool r) ∧ Drawn0 w w' := by
 have HR0 := Aside0.mk hr0
 have HC0 := Aside0.mk hc0
 clear hr0 hc0
 have H : (r33_all.l0 k l0 a1 0) = some r := h
 clear h
 have H' := Aside0.mk H
 clear H
 go_enter Try.func43, Try.ntmps43
 go_wp2
 go_loopg [5] k (fun kq v5 w' => ∃ (x5_1 : Int), v5 = .int .i64 x5_1 ∧ Aside0 (r33_all.l0 kq l0 a1 x5_1 = some r) ∧ Aside0 (kq ≤ k) ∧ Drawn0 w w')
 case atStart => exact ⟨(0), (by first | rfl | (simp; done) | (simp [*]; done)), H', ⟨Nat.le_refl _⟩, zQ⟩
 case round =>
  clear H'
  try clear p2
  obtain ⟨x5_1, rfl, HA, HK1, ⟨m1, rfl⟩⟩ := hrel
  cases gk with
  | zero => exact absurd HA.out (by simp [r33_all.l0])
  | succ k1 =>
   have H := HA.out
   clear HA
   simp only [r33_all.l0] at H
   by_cases c3 : x5_1 < (l0.length : Int)
   ·rw [if_pos c3] at H
    have c3b0 : decide (x5_1 < (l0.length : Int)) = true := decide_eq_true c3
    clear c3
    by_cases c4 : 0 ≤ x5_1
    ·rw [if_pos c4] at H
     have c4b0 : decide (0 ≤ x5_1) = true := decide_eq_true c4
     clear c4
     by_cases c5 : (rd l0 x5_1) < 0
     ·rw [if_pos c5] at H
      have c5b0 : decide ((rd l0 x5_1) < 0) = true := decide_eq_true c5
      clear c5
      obtain rfl := Option.some.inj H
      have p106 : 0 ≤ (x5_1 : Int) := of_decide_eq_true zS
      have q106 : x5_1 < (l0.length : Int) := of_decide_eq_true zS
      obtain ⟨ad106, e106, hx106_0⟩ := Kd.at_int HR0.out x5_1 p106 q106
      cases e106
      replace p106 := eq_true p106
      replace q106 := eq_true q106
      go_wp2
      go_ret
      exact ⟨by first | rfl | (simp; done) | (simp [*]; done), zQ⟩
     ·rw [if_neg c5] at H
      have c5b0 : decide ((rd l0 x5_1) < 0) = false := decide_eq_false c5
      clear c5
      by_cases c6 : (rd l0 x5_1) ≥ a1
      ·rw [if_pos c6] at H
       have c6b0 : decide (a1 ≤ (rd l0 x5_1)) = true := decide_eq_true c6
       clear c6
       obtain rfl := Option.some.inj H
       have p106 : 0 ≤ (x5_1 : Int) := of_decide_eq_true zS
       have q106 : x5_1 < (l0.length : Int) := of_decide_eq_true zS
       obtain ⟨ad106, e106, hx106_0⟩ := Kd.at_int HR0.out x5_1 p106 q106
       cases e106
       replace p106 := eq_true p106
       replace q106 := eq_true q106
       have p107 : 0 ≤ (x5_1 : Int) := of_decide_eq_true zS
       have q107 : x5_1 < (l0.length : Int) := of_decide_eq_true zS
       obtain ⟨ad107, e107, hx107_0⟩ := Kd.at_int HR0.out x5_1 p107 q107
       obtain rfl : ad106 = ad107 := (by injection e107)
       replace p107 := eq_true p107
       replace q107 := eq_true q107
       go_wp2
       go_ret
       exact ⟨by first | rfl | (simp; done) | (simp [*]; done), zQ⟩
      ·rw [if_neg c6] at H
       have c6b0 : decide (a1 ≤ (rd l0 x5_1)) = false := decide_eq_false c6
       clear c6
       have H' := Aside0.mk H
       clear H
       have p106 : 0 ≤ (x5_1 : Int) := of_decide_eq_true zS
       have q106 : x5_1 < (l0.length : Int) := of_decide_eq_true zS
       obtain ⟨ad106, e106, hx106_0⟩ := Kd.at_int HR0.out x5_1 p106 q106
       cases e106
       replace p106 := eq_true p106
       replace q106 := eq_true q106
       have p107 : 0 ≤ (x5_1 : Int) := of_decide_eq_true zS
       have q107 : x5_1 < (l0.length : Int) := of_decide_eq_true zS
       obtain ⟨ad107, e107, hx107_0⟩ := Kd.at_int HR0.out x5_1 p107 q107
       obtain rfl : ad106 = ad107 := (by injection e107)
       replace p107 := eq_true p107
       replace q107 := eq_true q107
       go_wp2
       go_roundg k1
       case measure => have := HK1.out; omega
       case rel => exact ⟨(wrap64 (x5_1 + 1)), (by first | rfl | (simp; done) | (simp [*]; done)), H', ⟨by have := HK1.out; omega⟩, zQ⟩
    ·rw [if_neg c4] at H
     exact absurd H (by simp)
   ·rw [if_neg c3] at H
    have c3b0 : decide (x5_1 < (l0.length : Int)) = false := decide_eq_false c3
    clear c3
    obtain rfl := Option.some.inj H
    go_wp2
    go_ret
    exact ⟨by first | rfl | (simp; done) | (simp [*]; done), zQ⟩
end Go.Proofs.Ytkgjbdbhpohkiaa.PLi
end
