import Derived.Test.YtkgjbdbhpohkiaaMw8
import Derived.Test.YtkgjbdbhpohkiaaMw6
import Derived.Test.YtkgjbdbhpohkiaaMw9
import Derived.Test.YtkgjbdbhpohkiaaMw10
import Derived.Test.YtkgjbdbhpohkiaaMw11
import Derived.Test.YtkgjbdbhpohkiaaMw2
import Derived.Test.YtkgjbdbhpohkiaaMw5
-- from YtkgjbdbhpohkiaaHLInst
section
namespace Go.Proofs.Ytkgjbdbhpohkiaa.PLi
open Go.RowKit Go.Proofs.YtkgjbdbhpohkiaaW.PrintWords Go.Proofs.YtkgjbdbhpohkiaaW.PrintLast Go.Proofs.YtkgjbdbhpohkiaaW.PrintMore Go.Proofs.Ytkgjbdbhpohkiaa.Str
set_option linter.unusedVariables false
set_option linter.unusedSimpArgs false
def liPiece (k : Nat) (d a b n : Int) (l : List Int) (t0 t1 : Int) (c : Nat) : Option ByteArray :=
  if c = 100 then listing_slot.f d else if c = 97 then listing_slot.f a else if c = 98 then listing_slot.f b
  else if c = 102 then (digits_Small.f a).bind fun s => if 1 + s.size ≤ 9223372036854775807 then some (mk [102] ++ s) else none
  else if c = 110 then digits_Print.f n else if c = 108 then listing_list.f k l
  else if c = 111 then (digits_Small.f t0).bind fun s => if 1 + s.size ≤ 9223372036854775807 then some (mk [64] ++ s) else none
  else if c = 116 then (digits_Small.f t1).bind fun s => if 1 + s.size ≤ 9223372036854775807 then some (mk [64] ++ s) else none else some (mk [])
def liWords (k : Nat) (d a b n : Int) (l : List Int) (t0 t1 : Int) : List UInt8 → Option (List ByteArray)
  | [] => some []
  | c :: cs => (liPiece k d a b n l t0 t1 c.toNat).bind fun s => (liWords k d a b n l t0 t1 cs).bind fun r => some (s :: r)
def asciiB (s : ByteArray) : Bool := s.data.toList.all fun c => decide (c.toNat < 128)
def listing_Inst.f (k : Nat) (op d a b n : Int) (l : List Int) (t0 t1 : Int) : Option ByteArray :=
  (listing_Word.f op).bind fun w => (listing_parts.f k op).bind fun q => if asciiB q = true ∧ q.size ≤ 8 then (liWords k d a b n l t0 t1 q.data.toList).bind fun ws => strings_Join.f (w :: ws) (mk [32]) else none
theorem liPiece_mono (d a b n : Int) (l : List Int) (t0 t1 : Int) (c k : Nat) : LeO (liPiece k d a b n l t0 t1 c) (liPiece (k + 1) d a b n l t0 t1 c) := by
  unfold liPiece
  repeat' first
    | (with_reducible exact listing_list.mono _ _)
    | (with_reducible exact LeO.refl _)
    | (with_reducible refine LeO.ite ?_ ?_)
theorem liWords_mono (d a b n : Int) (l : List Int) (t0 t1 : Int) (k : Nat) : ∀ cs : List UInt8, LeO (liWords k d a b n l t0 t1 cs) (liWords (k + 1) d a b n l t0 t1 cs)
  | [] => LeO.refl _
  | c :: cs => LeO.bind (liPiece_mono d a b n l t0 t1 c.toNat k) (fun _ => LeO.bind (liWords_mono d a b n l t0 t1 k cs) (fun _ => LeO.refl _))
theorem listing_Inst.mono : ∀ op d a b n l t0 t1 k, LeO (listing_Inst.f k op d a b n l t0 t1) (listing_Inst.f (k + 1) op d a b n l t0 t1) := by
  intro op d a b n l t0 t1 k
  unfold listing_Inst.f
  refine LeO.bind (LeO.refl _) (fun _ => LeO.bind (listing_parts.mono _ _) (fun _ => LeO.ite (LeO.bind (liWords_mono d a b n l t0 t1 k _) (fun _ => LeO.refl _)) (LeO.refl _)))
theorem liWords_len (k : Nat) (d a b n : Int) (l : List Int) (t0 t1 : Int) : ∀ (cs : List UInt8) (ws : List ByteArray), liWords k d a b n l t0 t1 cs = some ws → ws.length = cs.length
  | [], ws, h => by
    obtain rfl := Option.some.inj h
    rfl
  | c :: cs, ws, h => by
    obtain ⟨s, -, h⟩ := Option.bind_eq_some_iff.mp h
    obtain ⟨r, hr, h⟩ := Option.bind_eq_some_iff.mp h
    obtain rfl := Option.some.inj h
    rw [List.length_cons, List.length_cons, liWords_len k d a b n l t0 t1 cs r hr]
theorem li_round (k : Nat) (d a b n : Int) (l : List Int) (t0 t1 : Int) (q : ByteArray) (out ws : List ByteArray) (wd : ByteArray) (pos : Nat) (hp : pos < q.size) (ha : asciiB q = true) (hex : ∃ rest, liWords k d a b n l t0 t1 (q.data.toList.drop pos) = some rest ∧ out ++ rest = wd :: ws) :
    ∃ (cn : Nat) (s : ByteArray), (q[pos]'hp).toNat = cn ∧ cn < 128 ∧ liPiece k d a b n l t0 t1 cn = some s ∧ out.length ≤ ws.length + 1 ∧ ∃ rest, liWords k d a b n l t0 t1 (q.data.toList.drop (pos + 1)) = some rest ∧ (out ++ [s]) ++ rest = wd :: ws := by
  obtain ⟨rest, hr1, hr2⟩ := hex
  have hp2 : pos < q.data.toList.length := by rw [← size_data]; exact hp
  rw [List.drop_eq_getElem_cons hp2] at hr1
  obtain ⟨s, hs, hr1⟩ := Option.bind_eq_some_iff.mp hr1
  obtain ⟨rest2, hr3, hr1⟩ := Option.bind_eq_some_iff.mp hr1
  obtain rfl := Option.some.inj hr1
  have hasc : (q.data.toList[pos]).toNat < 128 := by
    unfold asciiB at ha
    rw [List.all_eq_true] at ha
    exact of_decide_eq_true (ha _ (List.getElem_mem hp2))
  have h1 := congrArg List.length hr2
  rw [List.length_append, List.length_cons, List.length_cons] at h1
  exact ⟨_, s, rfl, hasc, hs, by omega, rest2, hr3, by rw [← hr2]; simp⟩
def instBox (op d a b n : Int) (A : Option Addr) (c : Nat) (l : List Int) (t0 t1 : Int) : Obj := .cells #[.int .i64 op, .int .i64 d, .int .i64 a, .int .i64 b, .int .i64 n, .slice A l.length c, .int .i64 t0, .int .i64 t1] 37
structure InAt (b0 bi : Nat) (bx : Obj) (q : ByteArray) (pos : Nat) (out : List ByteArray) (v : Value) (w wr : World) : Prop where
  box : wr.heap[b0]? = some bx
  iter : wr.heap[bi]? = some (.stringIter q pos)
  row : Kd.R Kd.string 9 wr w.heap.size (fun _ => True) v out
  bel : Below w.heap.size w wr
theorem InAt.below {b0 bi : Nat} {bx : Obj} {q : ByteArray} {pos : Nat} {out : List ByteArray} {v : Value} {w wr w2 : World} (h : InAt b0 bi bx q pos out v w wr) (hb : Below wr.heap.size wr w2) : InAt b0 bi bx q pos out v w w2 :=
  ⟨blk_below h.box hb, blk_below h.iter hb, Kd.R_below h.row hb, below_step h.bel hb⟩
theorem InAt.next {b0 bi : Nat} {bx : Obj} {q : ByteArray} {pos : Nat} {out : List ByteArray} {v : Value} {w wr : World} (h : InAt b0 bi bx q pos out v w wr) (hne : b0 ≠ bi) (hle : w.heap.size ≤ bi) (p2 : Nat) : InAt b0 bi bx q p2 out v w (wr.iterAt bi q p2) := by
  refine ⟨(Lib.iterAt_other _ _ _ _ _ hne).trans h.box, Lib.iterAt_heap _ _ _ _ _ h.iter, ?_, Lib.below_iterAt h.bel hle _ _⟩
  have h1 := Kd.R_mono (Kd.R_bound h.row) (ok' := fun k => k ≠ bi) (fun k hk e => by
    obtain ⟨_, _, _, q, _, cells, hc⟩ := hk
    rw [e, h.iter] at hc
    cases hc)
  exact Kd.R_mono (Kd.R_step h1 (fun k hk _ => Lib.iterAt_other _ _ _ _ _ hk)) (fun _ _ => trivial)
theorem InAt.app {b0 bi : Nat} {bxc : Array Value} {t : Nat} {q : ByteArray} {pos : Nat} {out out1 : List ByteArray} {v v1 : Value} {w wr w2 : World} (h : InAt b0 bi (.cells bxc t) q pos out v w wr) (ht : 9 ≠ t) (hr : Kd.R Kd.string 9 w2 w.heap.size (fun _ => True) v1 out1) (hg : wr.grownBy w2 v.ownBlock) : InAt b0 bi (.cells bxc t) q pos out1 v1 w w2 := by
  refine ⟨(hg.block b0 (blk_lt h.box) (Kd.R_ne h.row h.box ht)).trans h.box, (hg.block bi (blk_lt h.iter) (fun e => ?_)).trans h.iter, hr, ?_⟩
  · obtain ⟨cells, hc⟩ := Kd.R_typed h.row bi e.symm
    rw [h.iter] at hc
    cases hc
  · exact pw_below_grown h.bel v.ownBlock h.bel.size hg (fun k e => by
      rcases Kd.R_base2 h.row with e0 | ⟨b, e0, hb⟩
      · rw [e0] at e
        cases e
      · rw [e0] at e
        injection e with e
        omega)
set_option maxHeartbeats 8000000 in
set_option maxRecDepth 100000 in
theorem listing_Inst.calls (k : Nat) (op d a b n : Int) (A5 : Option Addr) (c5 : Nat) (l : List Int) (t0 t1 : Int) (r : ByteArray) (w : World) (hr5 : Kd.C (Kd.int .i64) w A5 l.length l) (hc5 : l.length ≤ c5) (h : listing_Inst.f k op d a b n l t0 t1 = some r) :
    Calls Try.prog 12 #[.agg #[.int .i64 op, .int .i64 d, .int .i64 a, .int .i64 b, .int .i64 n, .slice A5 l.length c5, .int .i64 t0, .int .i64 t1]] w fun e w' => e = .returned (.string r) ∧ Below w.heap.size w w' := by
  have hu51 := Try.underlying37
  unfold listing_Inst.f at h
  obtain ⟨wd, hwd, h⟩ := Option.bind_eq_some_iff.mp h
  obtain ⟨q, hq, h⟩ := Option.bind_eq_some_iff.mp h
  by_cases hg : asciiB q = true ∧ q.size ≤ 8
  rotate_left
  · rw [if_neg hg] at h
    cases h
  rw [if_pos hg] at h
  obtain ⟨ws, hws, h⟩ := Option.bind_eq_some_iff.mp h
  have HWD := Aside0.mk hwd
  have HQ := Aside0.mk hq
  have HG := Aside0.mk hg
  have HWS := Aside0.mk hws
  have HJ := Aside0.mk h
  have HC := Aside0.mk hr5
  have HC5 := Aside0.mk hc5
  clear h hwd hq hg hws hr5 hc5
  have hbox := blk_new w (instBox op d a b n A5 c5 l t0 t1)
  have hbel : Below w.heap.size w (w.alloc (instBox op d a b n A5 c5 l t0 t1)) := below_alloc (Below.refl _ _) _
  unfold instBox at hbox hbel
  go_enter Try.func12, Try.ntmps12
  go_upto_region 1 with (fail)
  generalize w.alloc (.cells #[.int .i64 op, .int .i64 d, .int .i64 a, .int .i64 b, .int .i64 n, .slice A5 l.length c5, .int .i64 t0, .int .i64 t1] 37) = W0 at hbox hbel ⊢
  have HB0 := Aside0.mk hbox
  have HL0 := Aside0.mk hbel
  have e0 : W0.cell? ⟨w.heap.size, 0, none⟩ = some (.int .i64 op) := (blk_cell hbox 0).trans rfl
  clear hbox hbel
  go_wp2_with fail
  refine (listing_Word.calls op wd _ HWD.out).mono ?_
  rintro e w1 ⟨rfl, hb1⟩
  have HB1 := Aside0.mk (blk_below HB0.out hb1)
  have HL1 := Aside0.mk (below_step HL0.out hb1)
  have e1 : (w1.alloc (.cells #[.string wd] 9)).cell? ⟨w.heap.size, 0, none⟩ = some (.int .i64 op) := (blk_cell (blk_alloc HB1.out _) 0).trans rfl
  clear hb1 e0 HB0 HL0
  go_wp2_with fail
  refine (listing_parts.calls k op q _ HQ.out).mono ?_
  rintro e w2 ⟨rfl, ⟨nd, rfl⟩⟩
  clear e1
  go_wp2
  go_loopg [3] q.size (fun kq v3 w' => ∃ (pos : Nat) (out : List ByteArray) (vv : Value), vv = v3 ∧ Aside0 (pos ≤ q.size) ∧ Aside0 (∃ rest, liWords k d a b n l t0 t1 (q.data.toList.drop pos) = some rest ∧ out ++ rest = wd :: ws) ∧ Aside0 (InAt w.heap.size (w1.heap.size + 1) (instBox op d a b n A5 c5 l t0 t1) q pos out vv w w') ∧ Aside0 (kq = q.size - pos))
  case atStart =>
    have R0 : Kd.R Kd.string 9 (w1.alloc (.cells #[.string wd] 9)) w.heap.size (fun _ => True) (.slice (some ⟨w1.heap.size, 0, none⟩) 1 1) [wd] := ⟨fun _ _ => trivial, [.string wd], World.ownsRow_lit (base := w.heap.size) (e := 9) (size := 1) w1 #[.string wd] 1 HL1.out.size (by decide) rfl, Reps.one (show Kd.M Kd.string _ _ _ wd [.string wd] from rfl) (Reps.none _ _)⟩
    have hbb : Below (w1.alloc (.cells #[.string wd] 9)).heap.size (w1.alloc (.cells #[.string wd] 9)) (((w1.alloc (.cells #[.string wd] 9)).drewN nd).iter q 0) := iter_below (pw_below_drewN (Below.refl _ _) nd) q 0 (Nat.le_refl _)
    have hit := World.iter_heap ((w1.alloc (.cells #[.string wd] 9)).drewN nd) q 0
    refine ⟨0, [wd], _, rfl, ⟨by omega⟩, ⟨ws, HWS.out, rfl⟩, ⟨blk_below (blk_alloc HB1.out _) hbb, by simpa using hit, Kd.R_below R0 hbb, below_step (below_alloc HL1.out _) hbb⟩, ⟨by omega⟩⟩
  case round =>
    obtain ⟨pos, out, vv, e3, HP, HRs, HX, HK⟩ := hrel
    subst e3
    obtain ⟨A, c, rfl⟩ := Kd.R_slice HX.out.row
    have hbi : w.heap.size ≠ w1.heap.size + 1 ∧ w.heap.size ≤ w1.heap.size + 1 := by have := HL1.out.size; omega
    by_cases hp : pos < q.size
    · obtain ⟨cn, s, hcn, hc128, hs, hlen, hrest⟩ := li_round k d a b n l t0 t1 q out ws wd pos hp HG.out.1 HRs.out
      have hn := fun ty => Lib.run_next_ascii_at (P := Try.prog) wr (w1.heap.size + 1) q pos ty HX.out.iter hp (by rw [hcn]; exact hc128)
      rw [hcn] at hn
      have HX2 := Aside0.mk (HX.out.next hbi.1 hbi.2 (pos + 1))
      have HP2 := Aside0.mk hp
      have HS := Aside0.mk hs
      have HLe := Aside0.mk (show out.length ≤ 9 by have := liWords_len _ _ _ _ _ _ _ _ _ _ HWS.out; have h2 := HG.out.2; rw [size_data] at h2; omega)
      have HR2 := Aside0.mk hrest
      clear hp hcn hs hlen hrest hbi HX HRs
      generalize hW3 : wr.iterAt (w1.heap.size + 1) q (pos + 1) = w3 at hn HX2
      have HW3 := Aside0.mk hW3
      clear hW3
      go_upto_block 2 with (fail)
      go_cut [6] (fun s6 wx => s6 = .string s ∧ Aside0 (InAt w.heap.size (w1.heap.size + 1) (instBox op d a b n A5 c5 l t0 t1) q (pos + 1) out (.slice A out.length c) w wx))
      case first =>
        have hs := HS.out
        unfold liPiece at hs
        have f1 : w3.cell? ⟨w.heap.size, 1, none⟩ = some (.int .i64 d) := (blk_cell HX2.out.box 1).trans rfl
        have f2 : w3.cell? ⟨w.heap.size, 2, none⟩ = some (.int .i64 a) := (blk_cell HX2.out.box 2).trans rfl
        have f3 : w3.cell? ⟨w.heap.size, 3, none⟩ = some (.int .i64 b) := (blk_cell HX2.out.box 3).trans rfl
        have f4 : w3.cell? ⟨w.heap.size, 4, none⟩ = some (.int .i64 n) := (blk_cell HX2.out.box 4).trans rfl
        have f5 : w3.cell? ⟨w.heap.size, 5, none⟩ = some (.slice A5 l.length c5) := (blk_cell HX2.out.box 5).trans rfl
        have f6 : w3.cell? ⟨w.heap.size, 6, none⟩ = some (.int .i64 t0) := (blk_cell HX2.out.box 6).trans rfl
        have f7 : w3.cell? ⟨w.heap.size, 7, none⟩ = some (.int .i64 t1) := (blk_cell HX2.out.box 7).trans rfl
        by_cases k0 : cn = 100
        · rw [if_pos k0] at hs
          have g0 : ((cn : Int) == 100) = true := beq_iff_eq.mpr (by omega)
          have HZ := Aside0.mk hs
          clear hs k0
          go_wp2_with fail
          refine (listing_slot.calls d s _ HZ.out).mono ?_
          rintro e w5 ⟨rfl, hb5⟩
          have HX5 := Aside0.mk (HX2.out.below hb5)
          clear hb5
          go_wp2_with fail
          go_meet
          exact ⟨rfl, HX5⟩
        rw [if_neg k0] at hs
        have g0 : ((cn : Int) == 100) = false := beq_eq_false_iff_ne.mpr (by omega)
        by_cases k1 : cn = 97
        · rw [if_pos k1] at hs
          have g1 : ((cn : Int) == 97) = true := beq_iff_eq.mpr (by omega)
          have HZ := Aside0.mk hs
          clear hs k1
          go_wp2_with fail
          refine (listing_slot.calls a s _ HZ.out).mono ?_
          rintro e w5 ⟨rfl, hb5⟩
          have HX5 := Aside0.mk (HX2.out.below hb5)
          clear hb5
          go_wp2_with fail
          go_meet
          exact ⟨rfl, HX5⟩
        rw [if_neg k1] at hs
        have g1 : ((cn : Int) == 97) = false := beq_eq_false_iff_ne.mpr (by omega)
        by_cases k2 : cn = 98
        · rw [if_pos k2] at hs
          have g2 : ((cn : Int) == 98) = true := beq_iff_eq.mpr (by omega)
          have HZ := Aside0.mk hs
          clear hs k2
          go_wp2_with fail
          refine (listing_slot.calls b s _ HZ.out).mono ?_
          rintro e w5 ⟨rfl, hb5⟩
          have HX5 := Aside0.mk (HX2.out.below hb5)
          clear hb5
          go_wp2_with fail
          go_meet
          exact ⟨rfl, HX5⟩
        rw [if_neg k2] at hs
        have g2 : ((cn : Int) == 98) = false := beq_eq_false_iff_ne.mpr (by omega)
        by_cases k3 : cn = 102
        · rw [if_pos k3] at hs
          have g3 : ((cn : Int) == 102) = true := beq_iff_eq.mpr (by omega)
          obtain ⟨z, hz, hs⟩ := Option.bind_eq_some_iff.mp hs
          by_cases hz1 : 1 + z.size ≤ 9223372036854775807
          rotate_left
          · rw [if_neg hz1] at hs
            cases hs
          rw [if_pos hz1] at hs
          obtain rfl := Option.some.inj hs
          have HZ := Aside0.mk hz
          clear hz hs k3
          go_wp2_with fail
          refine (digits_Small.calls a z _ HZ.out).mono ?_
          rintro e w5 ⟨rfl, hb5⟩
          have HX5 := Aside0.mk (HX2.out.below hb5)
          clear hb5
          go_wp2_with fail
          go_meet
          exact ⟨rfl, HX5⟩
        rw [if_neg k3] at hs
        have g3 : ((cn : Int) == 102) = false := beq_eq_false_iff_ne.mpr (by omega)
        by_cases k4 : cn = 110
        · rw [if_pos k4] at hs
          have g4 : ((cn : Int) == 110) = true := beq_iff_eq.mpr (by omega)
          have HZ := Aside0.mk hs
          clear hs k4
          go_wp2_with fail
          refine (digits_Print.calls n s _ HZ.out).mono ?_
          rintro e w5 ⟨rfl, hb5⟩
          have HX5 := Aside0.mk (HX2.out.below hb5)
          clear hb5
          go_wp2_with fail
          go_meet
          exact ⟨rfl, HX5⟩
        rw [if_neg k4] at hs
        have g4 : ((cn : Int) == 110) = false := beq_eq_false_iff_ne.mpr (by omega)
        by_cases k5 : cn = 108
        · rw [if_pos k5] at hs
          have g5 : ((cn : Int) == 108) = true := beq_iff_eq.mpr (by omega)
          have HZ := Aside0.mk hs
          clear hs k5
          go_wp2_with fail
          refine (listing_list.calls k A5 c5 l s _ (Kd.C_below HC.out HX2.out.bel) HC5.out HZ.out).mono ?_
          rintro e w5 ⟨rfl, hb5⟩
          have HX5 := Aside0.mk (HX2.out.below hb5)
          clear hb5
          go_wp2_with fail
          go_meet
          exact ⟨rfl, HX5⟩
        rw [if_neg k5] at hs
        have g5 : ((cn : Int) == 108) = false := beq_eq_false_iff_ne.mpr (by omega)
        by_cases k6 : cn = 111
        · rw [if_pos k6] at hs
          have g6 : ((cn : Int) == 111) = true := beq_iff_eq.mpr (by omega)
          obtain ⟨z, hz, hs⟩ := Option.bind_eq_some_iff.mp hs
          by_cases hz1 : 1 + z.size ≤ 9223372036854775807
          rotate_left
          · rw [if_neg hz1] at hs
            cases hs
          rw [if_pos hz1] at hs
          obtain rfl := Option.some.inj hs
          have HZ := Aside0.mk hz
          clear hz hs k6
          go_wp2_with fail
          refine (digits_Small.calls t0 z _ HZ.out).mono ?_
          rintro e w5 ⟨rfl, hb5⟩
          have HX5 := Aside0.mk (HX2.out.below hb5)
          clear hb5
          go_wp2_with fail
          go_meet
          exact ⟨rfl, HX5⟩
        rw [if_neg k6] at hs
        have g6 : ((cn : Int) == 111) = false := beq_eq_false_iff_ne.mpr (by omega)
        by_cases k7 : cn = 116
        · rw [if_pos k7] at hs
          have g7 : ((cn : Int) == 116) = true := beq_iff_eq.mpr (by omega)
          obtain ⟨z, hz, hs⟩ := Option.bind_eq_some_iff.mp hs
          by_cases hz1 : 1 + z.size ≤ 9223372036854775807
          rotate_left
          · rw [if_neg hz1] at hs
            cases hs
          rw [if_pos hz1] at hs
          obtain rfl := Option.some.inj hs
          have HZ := Aside0.mk hz
          clear hz hs k7
          go_wp2_with fail
          refine (digits_Small.calls t1 z _ HZ.out).mono ?_
          rintro e w5 ⟨rfl, hb5⟩
          have HX5 := Aside0.mk (HX2.out.below hb5)
          clear hb5
          go_wp2_with fail
          go_meet
          exact ⟨rfl, HX5⟩
        rw [if_neg k7] at hs
        have g7 : ((cn : Int) == 116) = false := beq_eq_false_iff_ne.mpr (by omega)
        obtain rfl := Option.some.inj hs
        clear hs k0 k1 k2 k3 k4 k5 k6 k7
        go_wp2_with fail
        go_meet
        exact ⟨rfl, HX2⟩
      case rest =>
        obtain ⟨rfl, HX5⟩ := hcut
        clear HX2
        go_wp2_with (first | ((with_reducible refine gate_builtin (b := .append) (xs := #[.tmp 64, .tmp 66]) rfl ?_); at_builtin; refine Kd.R_append Kd.string (w0 := w) w.heap.size rfl (.tmp 64) (.tmp 66) 49 9 (.string ⟨#[]⟩) 16 rfl Try.underlying49 (by kernel_rfl) rfl (by decide) (by omega) (.slice A out.length c) out s [.string s] (fun _ => True) (fun _ => False) rfl rfl rfl (fun _ hk => hk.elim) (fun k hk => trivial) HX5.out.row HX5.out.bel HX5.out.bel.size (by have := HLe.out; omega) ?_; intro v1 w9 hr9 hb9 hg9 hv9; have HX9 := Aside0.mk (InAt.app HX5.out (by decide) hr9 hg9); clear hr9 hb9 hg9 hv9))
        go_roundg (q.size - (pos + 1))
        case measure => have := HK.out; have := HP2.out; omega
        case rel => exact ⟨pos + 1, _, _, rfl, ⟨by have := HP2.out; omega⟩, ⟨HR2.out⟩, ⟨HX9.out⟩, ⟨rfl⟩⟩
    · have hn := fun ty => Lib.run_next_end_at (P := Try.prog) wr (w1.heap.size + 1) q pos ty HX.out.iter hp
      obtain ⟨rest, hr1, hr2⟩ := HRs.out
      have hd : q.data.toList.drop pos = [] := List.drop_eq_nil_of_le (by rw [← size_data]; omega)
      rw [hd] at hr1
      obtain rfl := Option.some.inj hr1
      rw [List.append_nil] at hr2
      obtain ⟨A6, c6, e6, hl6, hC6⟩ := Kd.R_reads HX.out.row
      have HJ2 := Aside0.mk (show strings_Join.f out (mk [32]) = some r by rw [hr2]; exact HJ.out)
      injection e6 with e7 e8 e9
      subst e7
      subst e9
      have HC6 := Aside0.mk hC6
      have HL6 := Aside0.mk hl6
      clear hd hr1 hr2 hp hC6 hl6 e8 hbi HRs
      go_wp2_with fail
      refine (strings_Join.calls A c out (mk [32]) r _ HC6.out HL6.out HJ2.out).mono ?_
      rintro e w8 ⟨rfl, hb8⟩
      have HB8 := Aside0.mk (below_step HX.out.bel hb8)
      clear hb8
      go_wp2
      go_ret
      exact ⟨rfl, HB8.out⟩
end Go.Proofs.Ytkgjbdbhpohkiaa.PLi
end
-- from YtkgjbdbhpohkiaaPLix10
section
namespace Go.Proofs.Ytkgjbdbhpohkiaa.PLi
open Go.RowKit Go.Proofs.YtkgjbdbhpohkiaaW.PrintWords Go.Proofs.YtkgjbdbhpohkiaaW.PrintLast Go.Proofs.YtkgjbdbhpohkiaaW.PrintMore Go.Proofs.Ytkgjbdbhpohkiaa.Zip
attribute [local go_sem] max2_int min2_int max_two min_two max_three min_three max_four min_four   -- for this text's walks alone
set_option linter.unusedVariables false
set_option linter.unusedSimpArgs false
def IsS67 (w0 W : World) (g : Nat) (f0 : List (S84)) (f1 : Int) (f2 : Int) (f3 : Int) (f4 : Int) : Prop := ∃ A0 c0, W.heap[g]? = some (.cells #[.slice A0 f0.length c0, .int .i64 f1, .int .i64 f2, .int .i64 f3, .int .i64 f4] 67 (0, 0)) ∧ w0.heap.size ≤ g ∧ Kd.C k84 w0 A0 f0.length f0
theorem IsS67.grown {w0 W : World} {g : Nat} {f0 : List (S84)} {f1 : Int} {f2 : Int} {f3 : Int} {f4 : Int} {W1 : World} {row : Option Nat} (h : IsS67 w0 W g f0 f1 f2 f3 f4) (hw : W.grownBy W1 row) (hne : some g ≠ row) : IsS67 w0 W1 g f0 f1 f2 f3 f4 := by
 obtain ⟨A0, c0, hb, hg, hr0⟩ := h
 exact ⟨A0, c0, blk_grown hb hw hne, hg, hr0⟩
theorem IsS67.kept {w0 W : World} {g : Nat} {f0 : List (S84)} {f1 : Int} {f2 : Int} {f3 : Int} {f4 : Int} {W1 : World} {S : Nat → Prop} (h : IsS67 w0 W g f0 f1 f2 f3 f4) (hk : Kept W W1 S) (hne : ¬ S g) : IsS67 w0 W1 g f0 f1 f2 f3 f4 := by
 obtain ⟨A0, c0, hb, hg, hr0⟩ := h
 exact ⟨A0, c0, blk_kept hb hk hne, hg, hr0⟩
theorem IsS67.below {w0 W : World} {g : Nat} {f0 : List (S84)} {f1 : Int} {f2 : Int} {f3 : Int} {f4 : Int} {W1 : World} (h : IsS67 w0 W g f0 f1 f2 f3 f4) (hw : Below W.heap.size W W1) : IsS67 w0 W1 g f0 f1 f2 f3 f4 := h.grown (grown_of_below hw none) (by simp)
theorem IsS67.alloc {w0 W : World} {g : Nat} {f0 : List (S84)} {f1 : Int} {f2 : Int} {f3 : Int} {f4 : Int} (h : IsS67 w0 W g f0 f1 f2 f3 f4) (o : Obj) : IsS67 w0 (W.alloc o) g f0 f1 f2 f3 f4 := h.below (below_alloc (Below.refl _ _) o)
theorem IsS67.drewN {w0 W : World} {g : Nat} {f0 : List (S84)} {f1 : Int} {f2 : Int} {f3 : Int} {f4 : Int} (h : IsS67 w0 W g f0 f1 f2 f3 f4) (m : Nat) : IsS67 w0 (W.drewN m) g f0 f1 f2 f3 f4 := h
theorem IsS67.drew {w0 W : World} {g : Nat} {f0 : List (S84)} {f1 : Int} {f2 : Int} {f3 : Int} {f4 : Int} (h : IsS67 w0 W g f0 f1 f2 f3 f4) : IsS67 w0 W.drew g f0 f1 f2 f3 f4 := h
theorem IsS67.at_ {w0 W : World} {g : Nat} {f0 : List (S84)} {f1 : Int} {f2 : Int} {f3 : Int} {f4 : Int} {w' : World} {m : Nat} (hq : W.drewN m = w') (h : IsS67 w0 W g f0 f1 f2 f3 f4) : IsS67 w0 w' g f0 f1 f2 f3 f4 := by subst hq; exact IsS67.drewN h m
theorem IsS67.apart {w0 W : World} {g : Nat} {f0 : List (S84)} {f1 : Int} {f2 : Int} {f3 : Int} {f4 : Int} {α : Type} {d : Kd α} {e : Nat} {base : Nat} {ok : Nat → Prop} {v : Value} {xs : List α} (h : IsS67 w0 W g f0 f1 f2 f3 f4) (ho : d.R e W base ok v xs) (ht : ∀ q, q ∈ e :: d.E → q ≠ 67) : d.R e W base (fun k => ok k ∧ k ≠ g) v xs := by
 obtain ⟨A0, c0, hb, hg, hr0⟩ := h
 exact Kd.R_types ho hb ht
theorem IsS67.own_ne {w0 W : World} {g : Nat} {f0 : List (S84)} {f1 : Int} {f2 : Int} {f3 : Int} {f4 : Int} {α : Type} {d : Kd α} {e : Nat} {base : Nat} {ok : Nat → Prop} {v : Value} {xs : List α} (h : IsS67 w0 W g f0 f1 f2 f3 f4) (ho : d.R e W base ok v xs) (ht : e ≠ 67) : some g ≠ v.ownBlock := by
 obtain ⟨A0, c0, hb, hg, hr0⟩ := h
 exact Kd.R_ne ho hb ht
theorem IsS67.lt {w0 W : World} {g : Nat} {f0 : List (S84)} {f1 : Int} {f2 : Int} {f3 : Int} {f4 : Int} (h : IsS67 w0 W g f0 f1 f2 f3 f4) : g < W.heap.size := by
 obtain ⟨A0, c0, hb, hg, hr0⟩ := h
 exact blk_lt hb
theorem IsS67.ge {w0 W : World} {g : Nat} {f0 : List (S84)} {f1 : Int} {f2 : Int} {f3 : Int} {f4 : Int} (h : IsS67 w0 W g f0 f1 f2 f3 f4) : w0.heap.size ≤ g := by
 obtain ⟨A0, c0, hb, hg, hr0⟩ := h
 exact hg
theorem IsS67.far {w0 W : World} {g : Nat} {f0 : List (S84)} {f1 : Int} {f2 : Int} {f3 : Int} {f4 : Int} {p : Addr} (h : IsS67 w0 W g f0 f1 f2 f3 f4) (hne : g ≠ p.block) (u : Value) : IsS67 w0 (W.setCell p u) g f0 f1 f2 f3 f4 := by
 obtain ⟨A0, c0, hb, hg, hr0⟩ := h
 exact ⟨A0, c0, blk_far hb hne u, hg, hr0⟩
theorem cellS67_0 {W : World} {g : Nat} {A0 : Option Addr} {c0 : Nat} {f0 : List (S84)} {f1 : Int} {f2 : Int} {f3 : Int} {f4 : Int} (h : W.heap[g]? = some (.cells #[.slice A0 f0.length c0, .int .i64 f1, .int .i64 f2, .int .i64 f3, .int .i64 f4] 67 (0, 0))) : W.cell? ⟨g, 0, none⟩ = some (.slice A0 f0.length c0) := (blk_cell h 0).trans rfl
theorem cellS67_1 {W : World} {g : Nat} {A0 : Option Addr} {c0 : Nat} {f0 : List (S84)} {f1 : Int} {f2 : Int} {f3 : Int} {f4 : Int} (h : W.heap[g]? = some (.cells #[.slice A0 f0.length c0, .int .i64 f1, .int .i64 f2, .int .i64 f3, .int .i64 f4] 67 (0, 0))) : W.cell? ⟨g, 1, none⟩ = some (.int .i64 f1) := (blk_cell h 1).trans rfl
theorem IsS67.set_1 {w0 W : World} {g : Nat} {f0 : List (S84)} {f1 : Int} {f2 : Int} {f3 : Int} {f4 : Int} (h : IsS67 w0 W g f0 f1 f2 f3 f4) (x : Int) : IsS67 w0 (W.setCell ⟨g, 1, none⟩ (.int .i64 x)) g f0 x f2 f3 f4 := by
 obtain ⟨A0, c0, hb, hg, hr0⟩ := h
 exact ⟨A0, c0, by simpa using blk_set hb 1 (.int .i64 x), hg, hr0⟩
theorem cellS67_2 {W : World} {g : Nat} {A0 : Option Addr} {c0 : Nat} {f0 : List (S84)} {f1 : Int} {f2 : Int} {f3 : Int} {f4 : Int} (h : W.heap[g]? = some (.cells #[.slice A0 f0.length c0, .int .i64 f1, .int .i64 f2, .int .i64 f3, .int .i64 f4] 67 (0, 0))) : W.cell? ⟨g, 2, none⟩ = some (.int .i64 f2) := (blk_cell h 2).trans rfl
theorem IsS67.set_2 {w0 W : World} {g : Nat} {f0 : List (S84)} {f1 : Int} {f2 : Int} {f3 : Int} {f4 : Int} (h : IsS67 w0 W g f0 f1 f2 f3 f4) (x : Int) : IsS67 w0 (W.setCell ⟨g, 2, none⟩ (.int .i64 x)) g f0 f1 x f3 f4 := by
 obtain ⟨A0, c0, hb, hg, hr0⟩ := h
 exact ⟨A0, c0, by simpa using blk_set hb 2 (.int .i64 x), hg, hr0⟩
theorem cellS67_3 {W : World} {g : Nat} {A0 : Option Addr} {c0 : Nat} {f0 : List (S84)} {f1 : Int} {f2 : Int} {f3 : Int} {f4 : Int} (h : W.heap[g]? = some (.cells #[.slice A0 f0.length c0, .int .i64 f1, .int .i64 f2, .int .i64 f3, .int .i64 f4] 67 (0, 0))) : W.cell? ⟨g, 3, none⟩ = some (.int .i64 f3) := (blk_cell h 3).trans rfl
theorem IsS67.set_3 {w0 W : World} {g : Nat} {f0 : List (S84)} {f1 : Int} {f2 : Int} {f3 : Int} {f4 : Int} (h : IsS67 w0 W g f0 f1 f2 f3 f4) (x : Int) : IsS67 w0 (W.setCell ⟨g, 3, none⟩ (.int .i64 x)) g f0 f1 f2 x f4 := by
 obtain ⟨A0, c0, hb, hg, hr0⟩ := h
 exact ⟨A0, c0, by simpa using blk_set hb 3 (.int .i64 x), hg, hr0⟩
theorem cellS67_4 {W : World} {g : Nat} {A0 : Option Addr} {c0 : Nat} {f0 : List (S84)} {f1 : Int} {f2 : Int} {f3 : Int} {f4 : Int} (h : W.heap[g]? = some (.cells #[.slice A0 f0.length c0, .int .i64 f1, .int .i64 f2, .int .i64 f3, .int .i64 f4] 67 (0, 0))) : W.cell? ⟨g, 4, none⟩ = some (.int .i64 f4) := (blk_cell h 4).trans rfl
theorem IsS67.set_4 {w0 W : World} {g : Nat} {f0 : List (S84)} {f1 : Int} {f2 : Int} {f3 : Int} {f4 : Int} (h : IsS67 w0 W g f0 f1 f2 f3 f4) (x : Int) : IsS67 w0 (W.setCell ⟨g, 4, none⟩ (.int .i64 x)) g f0 f1 f2 f3 x := by
 obtain ⟨A0, c0, hb, hg, hr0⟩ := h
 exact ⟨A0, c0, by simpa using blk_set hb 4 (.int .i64 x), hg, hr0⟩
theorem IsS67.new (w0 W : World) (A0 : Option Addr) (c0 : Nat) (f0 : List (S84)) (f1 : Int) (f2 : Int) (f3 : Int) (f4 : Int) (hB : Below w0.heap.size w0 W) (hr0 : Kd.C k84 w0 A0 f0.length f0) : IsS67 w0 (W.alloc (.cells #[.slice A0 f0.length c0, .int .i64 f1, .int .i64 f2, .int .i64 f3, .int .i64 f4] 67)) W.heap.size f0 f1 f2 f3 f4 := ⟨A0, c0, by simpa using heap_alloc_new W _, hB.size, hr0⟩
def listing_reader_peek.f (s0_0 : List (S84)) (s0_1 : Int) (s0_2 : Int) (s0_3 : Int) (s0_4 : Int) : Option (ByteArray × Int × Int × Int × Int) := if s0_3 = 0 then (if s0_1 ≥ (s0_0.length : Int) then (some ((⟨#[]⟩ : ByteArray), s0_1, s0_2, s0_3, s0_4)) else (if 0 ≤ s0_1 then (if s0_1 < (s0_0.length : Int) then (some ((rd_T84 s0_0 s0_1).f0, s0_1, s0_2, s0_3, s0_4)) else (none)) else (none))) else (some ((⟨#[]⟩ : ByteArray), s0_1, s0_2, s0_3, s0_4))
set_option maxHeartbeats 8000000 in
set_option maxRecDepth 100000 in
theorem listing_reader_peek.calls (g : Nat) (s0_0 : List (S84)) (s0_1 : Int) (s0_2 : Int) (s0_3 : Int) (s0_4 : Int) (r1 : ByteArray) (r2 : Int) (r3 : Int) (r4 : Int) (r5 : Int) (w0 w : World) (hI : IsS67 w0 w g s0_0 s0_1 s0_2 s0_3 s0_4) (hB : Below w0.heap.size w0 w) (h : listing_reader_peek.f s0_0 s0_1 s0_2 s0_3 s0_4 = some (r1, r2, r3, r4, r5)) :
  Calls Try.prog 57 #[.pointer (some ⟨g, 0, none⟩)] w fun e w' => e = .returned (.string r1) ∧ IsS67 w0 w' g s0_0 r2 r3 r4 r5 ∧ Below w0.heap.size w0 w' ∧ KeepBut w w' g none := by
 have HI0 := Aside0.mk hI
 have HK := Aside0.mk (KeepBut.refl w g none)
 have HL := Aside0.mk hB.size
 clear hI
 have HW0 := Aside0.mk hB.size
 have HB := Aside0.mk hB
 clear hB
 have H : (if s0_3 = 0 then (if s0_1 ≥ (s0_0.length : Int) then (some ((⟨#[]⟩ : ByteArray), s0_1, s0_2, s0_3, s0_4)) else (if 0 ≤ s0_1 then (if s0_1 < (s0_0.length : Int) then (some ((rd_T84 s0_0 s0_1).f0, s0_1, s0_2, s0_3, s0_4)) else (none)) else (none))) else (some ((⟨#[]⟩ : ByteArray), s0_1, s0_2, s0_3, s0_4))) = some (r1, r2, r3, r4, r5) := h
 clear h
 by_cases c2 : s0_3 = 0
 ·rw [if_pos c2] at H
  have c2b0 : (s0_3 == 0) = true := beq_iff_eq.mpr c2
  have c2b1 : (s0_3 != 0) = false := bne_eq_false_iff_eq.mpr c2
  clear c2
  by_cases c3 : s0_1 ≥ (s0_0.length : Int)
  ·rw [if_pos c3] at H
   have c3b0 : decide ((s0_0.length : Int) ≤ s0_1) = true := decide_eq_true c3
   clear c3
   simp only [Option.some.injEq, Prod.mk.injEq] at H
   obtain ⟨rfl, rfl, rfl, rfl, rfl⟩ := H
   obtain ⟨ASz4_0, cSz4_0, HGz4, hgz4, HSz4_0⟩ := HI0.out
   have hcz4_0 := cellS67_0 HGz4
   have hcz4_1 := cellS67_1 HGz4
   have hcz4_2 := cellS67_2 HGz4
   have hcz4_3 := cellS67_3 HGz4
   have hcz4_4 := cellS67_4 HGz4
   have hfz4_1 := blk_frozen HGz4 1
   have hfz4_2 := blk_frozen HGz4 2
   have hfz4_3 := blk_frozen HGz4 3
   have hfz4_4 := blk_frozen HGz4 4
   clear HGz4 hgz4
   go_enter Try.func57, Try.ntmps57
   go_wp2
   repeat (go_quiet (fail); try go_wp2)
   go_ret
   exact ⟨zF, by repeat (first | (with_reducible first | exact HI0.out | apply IsS67.alloc | apply IsS67.drewN | apply IsS67.drew | apply IsS67.set_1 | apply IsS67.set_2 | apply IsS67.set_3 | apply IsS67.set_4) | exact HI0.out), zC HB.out (IsS67.ge HI0.out), by repeat (first | (with_reducible first | exact HK.out | apply KeepBut.set_ | apply keep_drewN | apply keep_drew | apply keep_alloc) | exact HK.out)⟩
  ·rw [if_neg c3] at H
   have c3b0 : decide ((s0_0.length : Int) ≤ s0_1) = false := decide_eq_false c3
   clear c3
   by_cases c5 : 0 ≤ s0_1
   ·rw [if_pos c5] at H
    have c5b0 : decide (0 ≤ s0_1) = true := decide_eq_true c5
    clear c5
    by_cases c6 : s0_1 < (s0_0.length : Int)
    ·rw [if_pos c6] at H
     have c6b0 : decide (s0_1 < (s0_0.length : Int)) = true := decide_eq_true c6
     clear c6
     simp only [Option.some.injEq, Prod.mk.injEq] at H
     obtain ⟨rfl, rfl, rfl, rfl, rfl⟩ := H
     obtain ⟨ASz7_0, cSz7_0, HGz7, hgz7, HSz7_0⟩ := HI0.out
     have hcz7_0 := cellS67_0 HGz7
     have hcz7_1 := cellS67_1 HGz7
     have hcz7_2 := cellS67_2 HGz7
     have hcz7_3 := cellS67_3 HGz7
     have hcz7_4 := cellS67_4 HGz7
     have hfz7_1 := blk_frozen HGz7 1
     have hfz7_2 := blk_frozen HGz7 2
     have hfz7_3 := blk_frozen HGz7 3
     have hfz7_4 := blk_frozen HGz7 4
     clear HGz7 hgz7
     have p138 : 0 ≤ (s0_1 : Int) := of_decide_eq_true zS
     have q138 : s0_1 < (s0_0.length : Int) := of_decide_eq_true zS
     obtain ⟨ad138, e138, hx138_0, hx138_1⟩ := at_T84 HSz7_0 s0_1 p138 q138
     cases e138
     replace hx138_0 := pw_cell_below HB.out hx138_0
     replace hx138_1 := pw_cell_below HB.out hx138_1
     replace p138 := eq_true p138
     replace q138 := eq_true q138
     go_enter Try.func57, Try.ntmps57
     go_wp2
     repeat (go_quiet (fail); try go_wp2)
     go_ret
     exact ⟨zF, by repeat (first | (with_reducible first | exact HI0.out | apply IsS67.alloc | apply IsS67.drewN | apply IsS67.drew | apply IsS67.set_1 | apply IsS67.set_2 | apply IsS67.set_3 | apply IsS67.set_4) | exact HI0.out), zC HB.out (IsS67.ge HI0.out), by repeat (first | (with_reducible first | exact HK.out | apply KeepBut.set_ | apply keep_drewN | apply keep_drew | apply keep_alloc) | exact HK.out)⟩
    ·rw [if_neg c6] at H
     exact absurd H (by simp)
   ·rw [if_neg c5] at H
    exact absurd H (by simp)
 ·rw [if_neg c2] at H
  have c2b0 : (s0_3 == 0) = false := beq_eq_false_iff_ne.mpr c2
  have c2b1 : (s0_3 != 0) = true := bne_iff_ne.mpr c2
  simp only [Option.some.injEq, Prod.mk.injEq] at H
  obtain ⟨rfl, rfl, rfl, rfl, rfl⟩ := H
  obtain ⟨ASz8_0, cSz8_0, HGz8, hgz8, HSz8_0⟩ := HI0.out
  have hcz8_0 := cellS67_0 HGz8
  have hcz8_1 := cellS67_1 HGz8
  have hcz8_2 := cellS67_2 HGz8
  have hcz8_3 := cellS67_3 HGz8
  have hcz8_4 := cellS67_4 HGz8
  have hfz8_1 := blk_frozen HGz8 1
  have hfz8_2 := blk_frozen HGz8 2
  have hfz8_3 := blk_frozen HGz8 3
  have hfz8_4 := blk_frozen HGz8 4
  clear HGz8 hgz8
  go_enter Try.func57, Try.ntmps57
  go_wp2
  repeat (go_quiet (fail); try go_wp2)
  go_ret
  exact ⟨zF, by repeat (first | (with_reducible first | exact HI0.out | apply IsS67.alloc | apply IsS67.drewN | apply IsS67.drew | apply IsS67.set_1 | apply IsS67.set_2 | apply IsS67.set_3 | apply IsS67.set_4) | exact HI0.out), zC HB.out (IsS67.ge HI0.out), by repeat (first | (with_reducible first | exact HK.out | apply KeepBut.set_ | apply keep_drewN | apply keep_drew | apply keep_alloc) | exact HK.out)⟩
end Go.Proofs.Ytkgjbdbhpohkiaa.PLi
end
