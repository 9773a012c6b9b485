import Derived.Test.YtkgjbdbhpohkiaaMb17
import Derived.Test.YtkgjbdbhpohkiaaMb20
import Derived.KernelRfl
import Derived.Test.YtkgjbdbhpohkiaaMb23
import Derived.Test.YtkgjbdbhpohkiaaRows
import Derived.WalkKit
import Derived.ProofKit
import Derived.OpenShut
import Derived.ShutString
import Derived.ChangeOld
import Derived.Below
import Derived.SizedLaws
-- from YtkgjbdbhpohkiaaHLAgain
section
/- What is read may be written, and is read again: the law ListingAgain, walked. -/
namespace Go.Proofs.Ytkgjbdbhpohkiaa.PLi
open Go.RowKit Go.Proofs.YtkgjbdbhpohkiaaW.PrintWords Go.Proofs.YtkgjbdbhpohkiaaW.PrintLast Go.Proofs.YtkgjbdbhpohkiaaW.PrintMore Go.Proofs.Ytkgjbdbhpohkiaa.Str
set_option linter.unusedVariables false
set_option linter.unusedSimpArgs false

def turntablelaw37_ListingAgain.f (k : Nat) (a : ByteArray) : Option Bool :=
  if 2500 < a.size then some true else (listing_Read.f k a).bind fun x => if x.2.1 = 0 then (turntableref33_Check.f k x.1).bind fun e => (listing_Text.f k x.1).bind fun t => (listing_Read.f k t).bind fun y => (turntableref32_Same.f k x.1 y.1).bind fun s => (listing_Text.f k y.1).bind fun t2 => if e.1 = 0 ∧ y.2.1 = 0 ∧ s = true ∧ t2.toList = t.toList then some true else none
  else if x.1.length = 0 ∧ 0 ≤ x.2.2 then some true else none
set_option maxHeartbeats 8000000 in
set_option maxRecDepth 100000 in
theorem turntablelaw37_ListingAgain.calls (k : Nat) (a : ByteArray) (r : Bool) (w : World) (h : turntablelaw37_ListingAgain.f k a = some r) :
    Calls Try.prog 6 #[.string a] w fun e w' => e = .returned (.bool r) ∧ Below w.heap.size w w' := by
  have hu33 := Try.underlying33
  have hu37 := Try.underlying37
  have hu26 := Try.underlying26
  have hfl : ∀ (u0 u1 : Value) (W : World), (Instr.field 26 (.agg #[u0, u1]) 0).run Try.prog W = .ok (u0) W := fun _ _ _ => by show _ = _; kernel_rfl
  unfold turntablelaw37_ListingAgain.f at h
  have HB := Aside0.mk (Below.refl w.heap.size w)
  by_cases hbig : 2500 < a.size
  · rw [if_pos hbig] at h
    obtain rfl := Option.some.inj h
    have d0 : decide (2500 < (a.size : Int)) = true := decide_eq_true (by omega)
    have d1 : decide (2500 < a.size) = true := decide_eq_true hbig
    clear hbig
    go_enter Try.func6, Try.ntmps6
    go_wp2_with fail
    refine (turntablelaw37_works.calls true _ rfl).mono ?_
    rintro e w1 ⟨rfl, hb⟩
    have HB1 := Aside0.mk (below_step HB.out hb)
    clear hb
    go_wp2
    go_ret
    exact ⟨rfl, HB1.out⟩
  rw [if_neg hbig] at h
  have d0 : decide (2500 < (a.size : Int)) = false := decide_eq_false (by omega)
  have d1 : decide (2500 < a.size) = false := decide_eq_false hbig
  clear hbig
  replace h := Option.bind_eq_some_iff.mp h
  obtain ⟨⟨x, f1, f2⟩, hx, h⟩ := h
  have HX := Aside0.mk hx
  clear hx
  by_cases cf : f1 = 0
  rotate_left
  · rw [if_neg cf] at h
    by_cases hc : x.length = 0 ∧ 0 ≤ f2
    rotate_left
    · rw [if_neg hc] at h
      cases h
    rw [if_pos hc] at h
    obtain rfl := Option.some.inj h
    have g1 : (f1 == 0) = false := beq_eq_false_iff_ne.mpr cf
    have g2 : (f1 != 0) = true := bne_iff_ne.mpr cf
    have g3 : ((x.length : Int) == 0) = true := beq_iff_eq.mpr (by omega)
    have g4 : decide (0 ≤ f2) = true := decide_eq_true hc.2
    have g5 : (x.length == 0) = true := beq_iff_eq.mpr hc.1
    clear cf hc h
    go_enter Try.func6, Try.ntmps6
    go_wp2_with fail
    refine (listing_Read.calls k a x f1 f2 _ HX.out).mono ?_
    rintro e w1 ⟨v1, rfl, hr1, hb⟩
    obtain ⟨A1, c1, e_, hl1, hC1⟩ := Kd.R_reads hr1
    subst e_
    clear hr1
    have HL1 := Aside0.mk hl1
    clear hl1
    have HB1 := Aside0.mk (below_step HB.out hb)
    clear hb
    have hbx := below_alloc (Below.refl w1.heap.size w1) (.cells #[.int .i64 f1, .int .i64 f2] 26)
    have HB2 := Aside0.mk (below_step HB1.out hbx)
    have HE2 := Aside0.mk (blk_new w1 (.cells #[.int .i64 f1, .int .i64 f2] 26))
    go_upto_region 4 with (fail)
    generalize hww : w1 = w1_ at *
    generalize w1_.alloc (.cells #[.int .i64 f1, .int .i64 f2] 26) = W2 at *
    clear hww hbx
    clear hC1
    have x0 := blk_cell HE2.out 0
    have x1 := blk_cell HE2.out 1
    go_wp2_with fail
    refine (turntablelaw37_works.calls true _ rfl).mono ?_
    rintro e w3 ⟨rfl, hb⟩
    have HB3 := Aside0.mk (below_step HB2.out hb)
    clear hb
    go_wp2
    go_ret
    exact ⟨rfl, HB3.out⟩
  rw [if_pos cf] at h
  have g1 : (f1 == 0) = true := beq_iff_eq.mpr cf
  have g2 : (f1 != 0) = false := bne_eq_false_iff_eq.mpr cf
  clear cf
  replace h := Option.bind_eq_some_iff.mp h
  obtain ⟨⟨e1, e2⟩, he, h⟩ := h
  replace h := Option.bind_eq_some_iff.mp h
  obtain ⟨t, ht, h⟩ := h
  replace h := Option.bind_eq_some_iff.mp h
  obtain ⟨⟨y, k1, k2⟩, hy, h⟩ := h
  replace h := Option.bind_eq_some_iff.mp h
  obtain ⟨s, hs, h⟩ := h
  replace h := Option.bind_eq_some_iff.mp h
  obtain ⟨t2, ht2, h⟩ := h
  by_cases hc : e1 = 0 ∧ k1 = 0 ∧ s = true ∧ t2.toList = t.toList
  rotate_left
  · rw [if_neg hc] at h
    cases h
  rw [if_pos hc] at h
  obtain rfl := Option.some.inj h
  obtain ⟨c1_, c2_, rfl, c3_⟩ := hc
  have g3 : (e1 != 0) = false := bne_eq_false_iff_eq.mpr c1_
  have g4 : (k1 == 0) = true := beq_iff_eq.mpr c2_
  have g5 : (t2.toList == t.toList) = true := beq_iff_eq.mpr c3_
  have HE := Aside0.mk he
  have HT := Aside0.mk ht
  have HY := Aside0.mk hy
  have HS := Aside0.mk hs
  have HU := Aside0.mk ht2
  clear he ht hy hs ht2 h c1_ c2_ c3_
  go_enter Try.func6, Try.ntmps6
  go_wp2_with fail
  refine (listing_Read.calls k a x f1 f2 _ HX.out).mono ?_
  rintro e w1 ⟨v1, rfl, hr1, hb⟩
  obtain ⟨A1, c1, e_, hl1, hC1⟩ := Kd.R_reads hr1
  subst e_
  clear hr1
  have HL1 := Aside0.mk hl1
  clear hl1
  have HB1 := Aside0.mk (below_step HB.out hb)
  clear hb
  have hbx := below_alloc (Below.refl w1.heap.size w1) (.cells #[.int .i64 f1, .int .i64 f2] 26)
  have HB2 := Aside0.mk (below_step HB1.out hbx)
  have HE2 := Aside0.mk (blk_new w1 (.cells #[.int .i64 f1, .int .i64 f2] 26))
  have HX2 := Aside0.mk (Kd.C_below hC1 hbx)
  go_upto_region 4 with (fail)
  generalize hww : w1 = w1_ at *
  generalize w1_.alloc (.cells #[.int .i64 f1, .int .i64 f2] 26) = W2 at *
  clear hww hbx
  clear hC1
  have x0 := blk_cell HE2.out 0
  go_wp2_with fail
  refine (turntableref33_Check.calls k A1 c1 x e1 e2 _ HX2.out HL1.out HE.out).mono ?_
  rintro e w3 ⟨rfl, hb⟩
  have HB3 := Aside0.mk (below_step HB2.out hb)
  have HX3 := Aside0.mk (Kd.C_below HX2.out hb)
  clear hb
  clear x0
  go_wp2_with fail
  refine (listing_Text.calls k A1 c1 x t _ HX3.out HL1.out HT.out).mono ?_
  rintro e w4 ⟨rfl, hb⟩
  have HB4 := Aside0.mk (below_step HB3.out hb)
  have HX4 := Aside0.mk (Kd.C_below HX3.out hb)
  clear hb
  go_wp2_with fail
  refine (listing_Read.calls k t y k1 k2 _ HY.out).mono ?_
  rintro e w5 ⟨v5, rfl, hr5, hb⟩
  obtain ⟨A5, c5, e_, hl5, hC5⟩ := Kd.R_reads hr5
  subst e_
  clear hr5
  have HL5 := Aside0.mk hl5
  clear hl5
  have HB5 := Aside0.mk (below_step HB4.out hb)
  have HX5 := Aside0.mk (Kd.C_below HX4.out hb)
  clear hb
  have hbx := below_alloc (Below.refl w5.heap.size w5) (.cells #[.int .i64 k1, .int .i64 k2] 26)
  have HB6 := Aside0.mk (below_step HB5.out hbx)
  have HE6 := Aside0.mk (blk_new w5 (.cells #[.int .i64 k1, .int .i64 k2] 26))
  have HX6 := Aside0.mk (Kd.C_below HX5.out hbx)
  have HY6 := Aside0.mk (Kd.C_below hC5 hbx)
  go_upto_region 10 with (fail)
  generalize hww : w5 = w5_ at *
  generalize w5_.alloc (.cells #[.int .i64 k1, .int .i64 k2] 26) = W6 at *
  clear hww hbx
  clear hC5
  have x0 := blk_cell HE6.out 0
  go_wp2_with fail
  refine (turntableref32_Same.calls k A1 c1 x A5 c5 y true _ HX6.out HL1.out HY6.out HL5.out HS.out).mono ?_
  rintro e w7 ⟨rfl, hb⟩
  have HB7 := Aside0.mk (below_step HB6.out hb)
  have HY7 := Aside0.mk (Kd.C_below HY6.out hb)
  clear hb
  clear x0
  go_wp2_with fail
  refine (listing_Text.calls k A5 c5 y t2 _ HY7.out HL5.out HU.out).mono ?_
  rintro e w8 ⟨rfl, hb⟩
  have HB8 := Aside0.mk (below_step HB7.out hb)
  clear hb
  go_wp2_with fail
  refine (turntablelaw37_works.calls true _ rfl).mono ?_
  rintro e w9 ⟨rfl, hb⟩
  have HB9 := Aside0.mk (below_step HB8.out hb)
  clear hb
  go_wp2
  go_ret
  exact ⟨rfl, HB9.out⟩
end Go.Proofs.Ytkgjbdbhpohkiaa.PLi
end
-- from YtkgjbdbhpohkiaaSaidListingAgain
section
-- PRINTED by a turned copy of the kit's print (patch_print.py); not typed by hand. Lean checks it.
namespace Go.Proofs.Ytkgjbdbhpohkiaa.ListingAgainSaid
open Go.RowKit Go.Proofs.Ytkgjbdbhpohkiaa.PLi Go.Proofs.Ytkgjbdbhpohkiaa.Open Go.Proofs.YtkgjbdbhpohkiaaW.PrintWords Go.Proofs.YtkgjbdbhpohkiaaW.PrintLast
set_option linter.unusedVariables false
def ListingAgain.Good : Prop := ∀ (a0 : ByteArray), (a0.size ≤ 140737488351232) → ∃ k, turntablelaw37_ListingAgain.f k a0 = some true
end Go.Proofs.Ytkgjbdbhpohkiaa.ListingAgainSaid
end
-- from YtkgjbdbhpohkiaaLiAgain
section
/- What is read has a text that is not too long, and any text is read as something. -/
namespace Go.Proofs.Ytkgjbdbhpohkiaa.LiText
open Go.RowKit Go.Proofs.YtkgjbdbhpohkiaaW.PrintWords Go.Proofs.YtkgjbdbhpohkiaaW.PrintLast Go.Proofs.YtkgjbdbhpohkiaaW.PrintMore Go.Proofs.Ytkgjbdbhpohkiaa.Str Go.Proofs.Ytkgjbdbhpohkiaa.Dig Go.Proofs.Ytkgjbdbhpohkiaa.DigLaw Go.Proofs.Ytkgjbdbhpohkiaa.CodeLaw Go.Proofs.Ytkgjbdbhpohkiaa.PLi Go.Proofs.Ytkgjbdbhpohkiaa.LiRead
set_option linter.unusedSimpArgs false
set_option linter.unusedVariables false

def n108 (cs : List UInt8) : Nat := (cs.filter (· == 108)).length
theorem one_list : ∀ n : Fin 31, n108 (partsT n).data.toList ≤ 1 := by decide +kernel
theorem letter_len2 (x : S37) (c : UInt8) (h : okC x c) : (letterL x c).length ≤ 21 + (if c = 108 then 22 * x.f5.length else 0) := by
  by_cases h5 : c = 108
  · subst h5
    rw [if_pos rfl]
    have := listL_len x.f5 h.2
    show (listL x.f5).length ≤ _
    omega
  rw [if_neg h5]
  unfold okC at h
  unfold letterL
  by_cases h0 : c = 100
  · rw [if_pos h0] at h ⊢; exact slotW_len _ h.1 h.2
  rw [if_neg h0] at h ⊢
  by_cases h1 : c = 97
  · rw [if_pos h1] at h ⊢; exact slotW_len _ h.1 h.2
  rw [if_neg h1] at h ⊢
  by_cases h2 : c = 98
  · rw [if_pos h2] at h ⊢; exact slotW_len _ h.1 h.2
  rw [if_neg h2] at h ⊢
  by_cases h3 : c = 102
  · rw [if_pos h3] at h ⊢; have := digs_len x.f2 (by omega) (by omega); rw [List.length_cons]; omega
  rw [if_neg h3] at h ⊢
  by_cases h4 : c = 110
  · rw [if_pos h4] at h ⊢; have := digs_len _ h.1 h.2; omega
  rw [if_neg h4, if_neg h5] at h ⊢
  by_cases h6 : c = 111
  · rw [if_pos h6] at h ⊢; have := digs_len x.f6.f0 (by omega) (by omega); rw [List.length_cons]; omega
  rw [if_neg h6] at h ⊢
  by_cases h7 : c = 116
  · rw [if_pos h7] at h ⊢; have := digs_len x.f6.f1 (by omega) (by omega); rw [List.length_cons]; omega
  rw [if_neg h7] at h
  exact h.elim
theorem tail_cost (x : S37) : ∀ cs : List UInt8, (∀ c ∈ cs, okC x c) → (Lib.joinTail [32] (cs.map (letterL x))).length ≤ 22 * cs.length + 22 * x.f5.length * n108 cs
  | [], _ => by simp [Lib.joinTail]
  | c :: cs, h => by
    have h1 := letter_len2 x c (h c (by simp))
    have h2 := tail_cost x cs (fun d hd => h d (by simp [hd]))
    rw [List.map_cons, joinTail_cons, List.length_cons, List.length_append, List.length_cons]
    have e : n108 (c :: cs) = (if c = 108 then 1 else 0) + n108 cs := by
      unfold n108
      by_cases hc : c = 108
      · rw [if_pos hc, List.filter_cons_of_pos (by simp [hc]), List.length_cons]; omega
      · rw [if_neg hc, List.filter_cons_of_neg (by simp [hc])]; omega
    rw [e]
    by_cases hc : c = 108
    · rw [if_pos hc] at h1 ⊢
      have : 22 * x.f5.length * (1 + n108 cs) = 22 * x.f5.length + 22 * x.f5.length * n108 cs := by rw [Nat.mul_add, Nat.mul_one]
      omega
    · rw [if_neg hc] at h1 ⊢
      rw [Nat.zero_add]
      omega
theorem line_cost {x : S37} (hx : GoodI x) : (lineL x).length ≤ 24 * costI x := by
  have h := inst_nat hx
  have h1 := tail_cost x _ h.ok
  have h2 := one_list ⟨x.f0.toNat, by have := h.le; omega⟩
  have hw := (word_ok ⟨x.f0.toNat, by have := h.le; omega⟩).1
  replace h2 : n108 (partsT x.f0.toNat).data.toList ≤ 1 := h2
  replace hw : (wordT x.f0.toNat).data.toList.length ≤ 10 := hw
  have h3 : 22 * x.f5.length * n108 (partsT x.f0.toNat).data.toList ≤ 22 * x.f5.length * 1 := Nat.mul_le_mul_left _ h2
  unfold lineL instL costI
  rw [joinS_cons]
  simp only [List.length_append, List.length_cons, List.length_nil]
  rw [size_data]
  omega
theorem code_cost : ∀ xs : List S37, (∀ x ∈ xs, GoodI x) → (codeL xs).length ≤ 24 * costC xs
  | [], _ => by simp [codeL]
  | x :: xs, h => by
    have h1 := line_cost (h x (by simp))
    have h2 := code_cost xs (fun y hy => h y (by simp [hy]))
    have e : costC (x :: xs) = costI x + costC xs := rfl
    have e2 : codeL (x :: xs) = lineL x ++ codeL xs := rfl
    rw [e, e2, List.length_append]
    omega
theorem text_cost : ∀ l : List S33, (∀ f ∈ l, GoodB f) → (textL l).length ≤ 24 * costL l
  | [], _ => by simp [textL]
  | f :: l, h => by
    have h1 := head_len (h f (by simp))
    have h2 := code_cost f.f2 (h f (by simp)).i
    have h3 := text_cost l (fun y hy => h y (by simp [hy]))
    have e : costL (f :: l) = (6 + f.f0.length + costC f.f2) + costL l := rfl
    have e2 : textL (f :: l) = bodyL f ++ textL l := rfl
    have hlen : (bodyL f).length = (headL f).length + (codeL f.f2).length + 2 := by unfold bodyL; simp only [List.length_append, List.length_cons, List.length_nil]
    rw [e, e2, List.length_append]
    omega
theorem fb_fit {l : List S33} (h : ∀ f ∈ l, FB f) : ∀ f ∈ l, Fit f := fun f hf =>
  ⟨by have := (h f hf).p; omega, by have := (h f hf).c; omega, fun x hx => by have := ((h f hf).x x hx).l; omega⟩
theorem chkL_in (funcs : Int) : ∀ (l : List S33) (i : Nat), 0 ≤ (chkL funcs l i).2 ∧ (chkL funcs l i).2 ≤ (i + l.length : Nat)
  | [], i => ⟨Int.le_refl _, by show (0 : Int) ≤ _; omega⟩
  | f :: l, i => by
    have := chkL_in funcs l (i + 1)
    unfold chkL
    rw [List.length_cons]
    split
    · exact ⟨this.1, by omega⟩
    · constructor
      · show (0 : Int) ≤ (i : Int); omega
      · show (i : Int) ≤ _; omega
theorem chk_in (l : List S33) : 0 ≤ (chk l).2 ∧ (chk l).2 ≤ l.length := by
  unfold chk
  split
  · constructor
    · show (0 : Int) ≤ (l.length : Int); omega
    · show (l.length : Int) ≤ l.length; omega
  · have := chkL_in (l.length : Int) l 0
    rw [Nat.zero_add] at this
    exact this
theorem split_toks (a : ByteArray) (ha : a.size ≤ 2500) : ∃ tl c e, splitL a = (tl, c, e) ∧ ((c = 0 ∧ Toks tl ∧ tl.length ≤ 2500) ∨ (c ≠ 0 ∧ 0 ≤ e)) := by
  unfold splitL
  rw [if_neg (by omega)]
  obtain ⟨⟨tl, c, e⟩, h⟩ : ∃ x, splitGo a a.data.toList 0 (-1) false [] = x := ⟨_, rfl⟩
  refine ⟨tl, c, e, h, ?_⟩
  rcases split_stand a a.data.toList 0 (-1) false [] 0 tl c e rfl (Nat.zero_le _) (Int.le_refl _) (.inl ⟨rfl, by omega⟩) h with ⟨h1, h2⟩ | ⟨h1, h2, h3, -⟩
  · have hl := stand_len h2
    exact .inl ⟨h1, ⟨by omega, fun t ht => (stand_in h2 t ht).1, fun t ht => by have := (stand_in h2 t ht).2; omega⟩, by omega⟩
  · exact .inr ⟨by omega, h3⟩
/-- Any text is read as bodies that may be, or something is wrong. -/
theorem read_any (a : ByteArray) (ha : a.size ≤ 2500) : ∃ l c e, Ev (fun k => listing_Read.f k a) (l, c, e) ∧ ((c = 0 ∧ (chk l).1 = 0 ∧ (∀ f ∈ l, FB f) ∧ l.length ≤ 200000 ∧ costL l ≤ 2500) ∨ (c ≠ 0 ∧ l = [] ∧ 0 ≤ e)) := by
  obtain ⟨tl, c, e, hs, hc⟩ := split_toks a ha
  have hsp : token_Split.f a = some (tl, c, e) := by unfold token_Split.f; rw [hs]
  rcases hc with ⟨rfl, hT, hlen⟩ | ⟨hc, he⟩
  · obtain ⟨out, r1, r3, r4, k1, k2, k3, k4, k5⟩ := words_any hT (s2 := (a.size : Int)) (by omega)
    by_cases h3 : r3 = 0
    · have hck := prog_chk out (fb_fit k4)
      have hin := chk_in out
      by_cases h0 : (chk out).1 = 0
      · refine ⟨out, 0, 0, ?_, .inl ⟨rfl, h0, k4, k3, by have := k5 h3; omega⟩⟩
        unfold listing_Read.f
        exact ev_some hsp (ev_pos (c := (0 : Int) = 0) rfl (ev_bind'' k1 (ev_pos h3 (ev_bind'' hck (ev_pos h0 (Ev.now _))))))
      · refine ⟨[], (chk out).1, wrap64 ((a.size : Int) + (chk out).2), ?_, .inr ⟨h0, rfl, by rw [w64 (by omega) (by omega)]; omega⟩⟩
        unfold listing_Read.f
        exact ev_some hsp (ev_pos (c := (0 : Int) = 0) rfl (ev_bind'' k1 (ev_pos h3 (ev_bind'' hck (ev_neg h0 (Ev.now _))))))
    · refine ⟨[], r3, r4, ?_, .inr ⟨h3, rfl, k2⟩⟩
      unfold listing_Read.f
      exact ev_some hsp (ev_pos (c := (0 : Int) = 0) rfl (ev_bind'' k1 (ev_neg h3 (Ev.now _))))
  · refine ⟨[], c, e, ?_, .inr ⟨hc, rfl, he⟩⟩
    unfold listing_Read.f
    exact ev_some hsp (ev_neg hc (Ev.now _))
end Go.Proofs.Ytkgjbdbhpohkiaa.LiText
end
-- from YtkgjbdbhpohkiaaPureListingAgain
section
/- What is read may be, and is read from its own text as the same: the plain law behind ListingAgain. -/
namespace Go.Proofs.Ytkgjbdbhpohkiaa.Pure
open Go.RowKit Go.Proofs.Ytkgjbdbhpohkiaa.PLi Go.Proofs.Ytkgjbdbhpohkiaa.ListingAgainSaid Go.Proofs.YtkgjbdbhpohkiaaW.PrintWords Go.Proofs.YtkgjbdbhpohkiaaW.PrintLast Go.Proofs.Ytkgjbdbhpohkiaa.Str Go.Proofs.Ytkgjbdbhpohkiaa.CodeLaw Go.Proofs.Ytkgjbdbhpohkiaa.LiRead Go.Proofs.Ytkgjbdbhpohkiaa.LiText

theorem ListingAgain : ListingAgain.Good := by
  intro a ha
  refine Ev.rounds (g := fun k => turntablelaw37_ListingAgain.f k a) ?_
  unfold turntablelaw37_ListingAgain.f
  by_cases hbig : 2500 < a.size
  · exact ev_pos hbig (Ev.now _)
  refine ev_neg hbig ?_
  obtain ⟨l, c, e, hr, hc⟩ := read_any a (by omega)
  refine ev_bind'' hr ?_
  rcases hc with ⟨rfl, h0, hfb, hl, hcost⟩ | ⟨hc, rfl, he⟩
  · obtain ⟨g1, g2⟩ := good_all (fun f h x hx => ((hfb f h).x x hx).n) h0
    have hx : ∀ f ∈ l, ∀ x ∈ f.f2, x.f5.length ≤ 1000000 := fun f h x hx => by have := ((hfb f h).x x hx).l; omega
    have ht := text_cost l g2
    have htx := listing_text g1 g2 hx (by omega)
    exact ev_pos (c := (0 : Int) = 0) rfl (ev_bind'' (ref_chk l (fb_fit hfb)) (ev_bind'' htx (ev_bind'' (read_text g1 g2 hx (by omega) h0) (ev_bind'' (same_any l (by omega) (fb_fit hfb)) (ev_bind'' htx (ev_pos ⟨h0, rfl, rfl, rfl⟩ (Ev.now _)))))))
  · exact ev_neg hc (ev_pos ⟨rfl, he⟩ (Ev.now _))
end Go.Proofs.Ytkgjbdbhpohkiaa.Pure
end
-- from YtkgjbdbhpohkiaaLawListingAgain
section
-- PRINTED by a turned copy of the kit's print (patch_print.py); not typed by hand. Lean checks it.
namespace Go.Proofs.Ytkgjbdbhpohkiaa.listingAgain
open Go.ChangeShapes Go.WideShapes Go.ChangeAt Go.RowKit
open Go.ChangeMaps (open_string shut_string)
open Go.Proofs.Ytkgjbdbhpohkiaa.PLi Go.Proofs.Ytkgjbdbhpohkiaa.Open Go.Proofs.Ytkgjbdbhpohkiaa.ListingAgainSaid
set_option linter.unusedVariables false
theorem own : ownKnob Try.prog.godebug = none := by kernel_rfl
theorem laidOut : laidOutB Try.prog = true := by kernel_rfl
set_option maxHeartbeats 4000000 in
set_option maxRecDepth 100000 in
theorem lifted (os : Os) (started : os.Started) (H : Type) (enc : TypeId × Value → H) :
    ReturnsInHanded {} Try.checked os 6 .any (Rows.listingAgainSpec.pre6 enc Try.prog Try.f6 Rows.listingAgainRow.domain false) (Rows.listingAgainSpec.post enc Try.prog Try.f6 false true false false) := by
  refine returnsInHanded_of_change_sized (C := Try.checked) own started (by kernel_rfl) Try.func6
    (ChangeSpec.witness6 (enc := enc) (C := Try.checked) false ⟨#[], #[.string ByteArray.empty], []⟩ 8 (by kernel_rfl) (by kernel_rfl) (by kernel_rfl) (by kernel_rfl)) ?_
  intro W base args ds gs before hval0 hW hcnd hsz0 _
  have hsz : (DataW.weightsEach Try.prog (Try.f6.params.toList ++ Rows.listingAgainSpec.plain.varTypes Try.prog) (ds ++ gs)).all (· ≤ reachBytes) = true := hsz0
  have hval : ∀ (j : Nat) t v, Try.f6.params[j]? = some t → args[j]? = some v → Value.okWide Try.prog W .any base t v := hval0
  have hW' := hW
  obtain ⟨p, q, hA0, hV, rfl, hfz, hnd⟩ := hW
  have hA : DataW.TrodAll enc Try.prog W 0 (fun _ => true) true Try.f6.params.toList args.toList ds p := hA0
  rw [Try.params6] at hA hval hsz
  obtain ⟨v0, vs0, d0, ds0, p0, q0, hargs, rfl, rfl, h0, r0⟩ := trodAll_cons hA
  obtain ⟨rfl, rfl, rfl⟩ := trodAll_nil r0
  obtain rfl : args = #[v0] := by cases args; simp_all
  obtain ⟨rfl, rfl⟩ := trodVars_none hV
  obtain ⟨a0, rfl, rfl, rfl, y0⟩ := open_string Try.underlying9 (hval 0 9 v0 rfl rfl) h0
  have w0 : a0.size ≤ 140737488351232 := by
    have z := sized_string hsz (j := 0) (t := 9) rfl rfl
    rw [Array.length_toList] at z
    exact z
  clear hA0 hval0 hsz0 hsz
  obtain ⟨k, hk⟩ := Pure.ListingAgain a0 w0
  refine (turntablelaw37_ListingAgain.calls k a0 true W hk).mono ?_
  rintro e W' ⟨rfl, hd_⟩
  have bel : Below W.heap.size W W' := hd_
  exact ⟨_, rfl, _, _, _, [], _, [], hW', trodAll_mk1 (shut_bool Try.underlying4 _), (trodAll_cons_mk (shut_string Try.underlying9 y0) trodAll_mk0), rfl, bel.frame _, fun h => by cases h⟩
theorem over : Rows.listingAgainRow.holds Try.pinned (OpenSpec.ofChange Rows.listingAgainSpec) :=
  OpenClaim.holds_of_wide 6 Try.f6 rfl rfl rfl rfl rfl rfl rfl ⟨rfl, rfl, rfl, rfl, rfl⟩ rfl rfl rfl rfl rfl (by kernel_rfl) Try.func6 (by kernel_rfl)
    (of_decide_eq_true (by kernel_rfl)) (by unfold Func.isWrapper; first | (rw [if_pos (by decide +kernel)]; kernel_rfl) | (rw [if_neg (by decide +kernel)]; exact ⟨rfl, rfl⟩))
    (fun os started H enc _ => lifted os started H enc)
theorem proved : Rows.ListingAgainSaid := over
#print axioms proved
end Go.Proofs.Ytkgjbdbhpohkiaa.listingAgain
namespace Go.Proofs.Ytkgjbdbhpohkiaa
/-- The row, under a short name, for the claim. -/
theorem listingAgain_holds : Rows.ListingAgainSaid := listingAgain.proved
end Go.Proofs.Ytkgjbdbhpohkiaa
end
