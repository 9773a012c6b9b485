import Derived.Test.YtkgjbdbhpohkiaaMr25
import Derived.Test.YtkgjbdbhpohkiaaMr5
import Derived.Deep.QuietTactic
import Derived.BigQuiet
-- from YtkgjbdbhpohkiaaHRefInst
section
namespace Go.Proofs.Ytkgjbdbhpohkiaa.PLi
open Go.RowKit Go.Proofs.YtkgjbdbhpohkiaaW.PrintWords Go.Proofs.YtkgjbdbhpohkiaaW.PrintLast Go.Proofs.YtkgjbdbhpohkiaaW.PrintMore Go.Proofs.Ytkgjbdbhpohkiaa.Zip Go.Proofs.Ytkgjbdbhpohkiaa.CodeLaw
set_option linter.unusedVariables false
set_option linter.unusedSimpArgs false
theorem ev_at {α : Type} {g : Nat → Option α} {r : α} (h : Ev g r) : ∃ k, g k = some r := Ev.rounds h
theorem in_calls (s : ByteArray) (c : Int) (hs : s.size ≤ 1000) (w : World) : Calls Try.prog 74 #[.string s, .int .u8 c] w fun e w' => e = .returned (.bool (hasC s c)) ∧ Drawn0 w w' := by
 obtain ⟨k, hk⟩ := ev_at (in_any s c hs)
 exact r33_in.calls k s c _ w hk
theorem slot_calls (h m : Bool) (x n : Int) (w : World) : Calls Try.prog 73 #[.bool h, .bool m, .int .i64 x, .int .i64 n] w fun e w' => e = .returned (.bool (slotB h m x n)) ∧ Drawn0 w w' :=
 r33_slot.calls h m x n _ w (slot_any h m x n)
theorem place_calls (h : Bool) (x n : Int) (w : World) : Calls Try.prog 75 #[.bool h, .int .i64 x, .int .i64 n] w fun e w' => e = .returned (.bool (placeB h x n)) ∧ Drawn0 w w' :=
 r33_place.calls h x n _ w (place_any h x n)
theorem all_calls (l : List Int) (A0 : Option Addr) (c0 : Nat) (n : Int) (w : World) (hr : Kd.C (Kd.int .i64) w A0 l.length l) (hc : l.length ≤ c0) (hl : l.length ≤ 9223372036854775806) : Calls Try.prog 43 #[.slice A0 l.length c0, .int .i64 n] w fun e w' => e = .returned (.bool (allB l n)) ∧ Drawn0 w w' := by
 obtain ⟨k, hk⟩ := ev_at (all_any l n hl)
 exact r33_all.calls k A0 c0 l n _ w hr hc hk
def r33_inst.f (op d a b nn : Int) (l : List Int) (t0 t1 size n funcs : Int) : Option Bool := if l.length ≤ 9223372036854775806 then some (refB op d a b nn l t0 t1 size n funcs) else none
def RefAt (g : Nat) (xc : Array Value) (w wr : World) : Prop := wr.heap[g]? = some (.cells xc 37 (0, 0)) ∧ Below w.heap.size w wr
theorem RefAt.drewN {g : Nat} {xc : Array Value} {w wr : World} (h : RefAt g xc w wr) (m : Nat) : RefAt g xc w (wr.drewN m) := ⟨blk_drewN h.1 m, pw_below_drewN h.2 m⟩
theorem RefAt.drew {g : Nat} {xc : Array Value} {w wr : World} (h : RefAt g xc w wr) : RefAt g xc w wr.drew := ⟨blk_drew h.1, below_drew1 h.2⟩
set_option maxHeartbeats 16000000 in
set_option maxRecDepth 100000 in
theorem r33_inst.calls (op d a b nn : Int) (A5 : Option Addr) (c5 : Nat) (l : List Int) (t0 t1 size n funcs : Int) (r : Bool) (w : World) (hr5 : Kd.C (Kd.int .i64) w A5 l.length l) (hc5 : l.length ≤ c5) (h : r33_inst.f op d a b nn l t0 t1 size n funcs = some r) :
  Calls Try.prog 44 #[.agg #[.int .i64 op, .int .i64 d, .int .i64 a, .int .i64 b, .int .i64 nn, .slice A5 l.length c5, .int .i64 t0, .int .i64 t1], .int .i64 size, .int .i64 n, .int .i64 funcs] w fun e w' => e = .returned (.bool r) ∧ Below w.heap.size w w' := by
 unfold r33_inst.f at h
 by_cases hl : l.length ≤ 9223372036854775806
 rotate_left
 ·rw [if_neg hl] at h; cases h
 rw [if_pos hl] at h
 obtain rfl := Option.some.inj h
 clear h
 have hu51 := Try.underlying37
 have HR5 := Aside0.mk hr5
 have HL := Aside0.mk hl
 have HC5 := Aside0.mk hc5
 clear hr5 hl hc5
 obtain ⟨s, hs⟩ : ∃ s, piecesS op = s := ⟨_, rfl⟩
 have hsz := pieces_len op
 rw [hs] at hsz
 have HP := Aside0.mk (show r33_Pieces.f op = some s by rw [← hs]; rfl)
 have hin := fun c W => in_calls s c hsz W
 obtain ⟨aB, haB⟩ : ∃ x : Bool, (if op = 21 then decide (0 ≤ a) && decide (a < funcs) else slotB (hasC s 97) (op == 28) a size) = x := ⟨_, rfl⟩
 obtain ⟨dB, hdB⟩ : ∃ x : Bool, slotB (hasC s 100) (op == 21) d size = x := ⟨_, rfl⟩
 obtain ⟨bB, hbB⟩ : ∃ x : Bool, slotB (hasC s 98) false b size = x := ⟨_, rfl⟩
 obtain ⟨nB, hnB⟩ : ∃ x : Bool, ((hasC s 115 && (decide (nn < 0) || decide (2097152 ≤ nn))) || (!hasC s 115 && !hasC s 119 && nn != 0)) = x := ⟨_, rfl⟩
 obtain ⟨lB, hlB⟩ : ∃ x : Bool, ((hasC s 108 && !allB l size) || (!hasC s 108 && (l.length != 0))) = x := ⟨_, rfl⟩
 obtain ⟨pB, hpB⟩ : ∃ x : Bool, placeB (hasC s 111 || hasC s 116) t0 n = x := ⟨_, rfl⟩
 obtain ⟨qB, hqB⟩ : ∃ x : Bool, placeB (hasC s 116) t1 n = x := ⟨_, rfl⟩
 have HE := Aside0.mk (show refB op d a b nn l t0 t1 size n funcs = (!s.toList.isEmpty && aB && dB && bB && !nB && !lB && pB && qB) by unfold refB; rw [hs]; simp only [haB, hdB, hbB, hnB, hlB, hpB, hqB])
 have HA := Aside0.mk haB
 have HD := Aside0.mk hdB
 have HBb := Aside0.mk hbB
 have HN := Aside0.mk hnB
 have HLb := Aside0.mk hlB
 have HPb := Aside0.mk hpB
 have HQb := Aside0.mk hqB
 clear haB hdB hbB hnB hlB hpB hqB hs hsz
 by_cases h0 : s.toList = []
 ·have b0 : (s.toList == ([] : List UInt8)) = true := beq_iff_eq.mpr h0
  have b1 : s.toList.isEmpty = true := by rw [h0]; rfl
  have HF := Aside0.mk (show refB op d a b nn l t0 t1 size n funcs = false by rw [HE.out, b1]; rfl)
  clear HE
  go_enter Try.func44, Try.ntmps44
  go_wp2_with (go_at_call 29; (with_reducible refine (r33_Pieces.calls op s _ HP.out).mono ?_); rintro e w' ⟨rfl, ⟨nd, rfl⟩⟩; (try exact zW))
  go_ret
  exact ⟨by rw [HF.out]; first | rfl | (simp; done), zB (Below.refl w.heap.size w)⟩
 have b0 : (s.toList == ([] : List UInt8)) = false := beq_eq_false_iff_ne.mpr h0
 have b1 : s.toList.isEmpty = false := by cases hh : s.toList with | nil => exact absurd hh h0 | cons => rfl
 have he2 := HE.out
 rw [b1, Bool.not_false, Bool.true_and] at he2
 have HE := Aside0.mk he2
 clear he2
 have HB0 := Aside0.mk h0
 clear h0
 go_enter Try.func44, Try.ntmps44
 go_upto_if 27 with (first | (go_at_call 29; (with_reducible refine (r33_Pieces.calls op s _ HP.out).mono ?_); rintro e w' ⟨rfl, ⟨nd, rfl⟩⟩; (try exact zW)) | (go_at_call 74; (with_reducible refine (hin _ _).mono ?_); rintro e w' ⟨rfl, ⟨nd, rfl⟩⟩; (try exact zW)) | (go_at_call 73; (with_reducible refine (slot_calls _ _ _ _ _).mono ?_); rintro e w' ⟨rfl, ⟨nd, rfl⟩⟩; (try exact zW)))
 repeat (go_quiet (first | (go_at_call 29; (with_reducible refine (r33_Pieces.calls op s _ HP.out).mono ?_); rintro e w' ⟨rfl, ⟨nd, rfl⟩⟩; (try exact zW)) | (go_at_call 74; (with_reducible refine (hin _ _).mono ?_); rintro e w' ⟨rfl, ⟨nd, rfl⟩⟩; (try exact zW)) | (go_at_call 73; (with_reducible refine (slot_calls _ _ _ _ _).mono ?_); rintro e w' ⟨rfl, ⟨nd, rfl⟩⟩; (try exact zW))); try go_upto_if 27 with (first | (go_at_call 29; (with_reducible refine (r33_Pieces.calls op s _ HP.out).mono ?_); rintro e w' ⟨rfl, ⟨nd, rfl⟩⟩; (try exact zW)) | (go_at_call 74; (with_reducible refine (hin _ _).mono ?_); rintro e w' ⟨rfl, ⟨nd, rfl⟩⟩; (try exact zW)) | (go_at_call 73; (with_reducible refine (slot_calls _ _ _ _ _).mono ?_); rintro e w' ⟨rfl, ⟨nd, rfl⟩⟩; (try exact zW))))
 (try simp only [Act.put, List.setIfInBounds_toArray, List.set_cons_zero, List.set_cons_succ])
 go_cut [10] (fun v10 wc => v10 = .bool aB ∧ Aside0 (RefAt w.heap.size #[.int .i64 op, .int .i64 d, .int .i64 a, .int .i64 b, .int .i64 nn, .slice A5 l.length c5, .int .i64 t0, .int .i64 t1] w wc))
 case first =>
  have HT : Aside0 (RefAt w.heap.size #[.int .i64 op, .int .i64 d, .int .i64 a, .int .i64 b, .int .i64 nn, .slice A5 l.length c5, .int .i64 t0, .int .i64 t1] w (w.alloc (.cells #[.int .i64 op, .int .i64 d, .int .i64 a, .int .i64 b, .int .i64 nn, .slice A5 l.length c5, .int .i64 t0, .int .i64 t1] 37))) := ⟨⟨blk_new w _, below_alloc (Below.refl _ _) _⟩⟩
  by_cases ho : op = 21
  ·have hob : (op == 21) = true := beq_iff_eq.mpr ho
   have ha := HA.out
   rw [if_pos ho] at ha
   clear ho
   cases h1 : decide (0 ≤ a) with
   | false =>
    rw [h1, Bool.false_and] at ha
    subst ha
    go_wp2
    repeat (go_quiet (fail); try go_wp2)
    go_meet
    case rel => exact ⟨by first | rfl | (simp; done), ⟨(by (with_reducible repeat (first | apply RefAt.drewN | apply RefAt.drew)); exact HT.out)⟩⟩
   | true =>
    rw [h1, Bool.true_and] at ha
    subst ha
    go_wp2
    repeat (go_quiet (fail); try go_wp2)
    go_meet
    case rel => exact ⟨by first | rfl | (simp; done), ⟨(by (with_reducible repeat (first | apply RefAt.drewN | apply RefAt.drew)); exact HT.out)⟩⟩
  ·have hob : (op == 21) = false := beq_eq_false_iff_ne.mpr ho
   have ha := HA.out
   rw [if_neg ho] at ha
   clear ho
   subst ha
   go_wp2
   repeat (go_quiet (fail); try go_wp2)
   go_meet
   case rel => exact ⟨by first | rfl | (simp; done), ⟨(by (with_reducible repeat (first | apply RefAt.drewN | apply RefAt.drew)); exact HT.out)⟩⟩
 case rest =>
  obtain ⟨rfl, HT⟩ := hcut
  go_upto_region 7 with (fail)
  repeat (go_quiet (fail); go_upto_region 7 with (fail))
  go_cut [59] (fun v59 wc => v59 = .bool (!(aB && dB && bB)) ∧ Aside0 (RefAt w.heap.size #[.int .i64 op, .int .i64 d, .int .i64 a, .int .i64 b, .int .i64 nn, .slice A5 l.length c5, .int .i64 t0, .int .i64 t1] w wc))
  case first =>
   have cx0 : wc.cell? ⟨w.heap.size, 0, none⟩ = some (.int .i64 op) := (blk_cell HT.out.1 0).trans rfl
   have cx1 : wc.cell? ⟨w.heap.size, 1, none⟩ = some (.int .i64 d) := (blk_cell HT.out.1 1).trans rfl
   have cx2 : wc.cell? ⟨w.heap.size, 2, none⟩ = some (.int .i64 a) := (blk_cell HT.out.1 2).trans rfl
   have cx3 : wc.cell? ⟨w.heap.size, 3, none⟩ = some (.int .i64 b) := (blk_cell HT.out.1 3).trans rfl
   have cx4 : wc.cell? ⟨w.heap.size, 4, none⟩ = some (.int .i64 nn) := (blk_cell HT.out.1 4).trans rfl
   have cx5 : wc.cell? ⟨w.heap.size, 5, none⟩ = some (.slice A5 l.length c5) := (blk_cell HT.out.1 5).trans rfl
   have cx6 : wc.cell? ⟨w.heap.size, 6, none⟩ = some (.int .i64 t0) := (blk_cell HT.out.1 6).trans rfl
   have cx7 : wc.cell? ⟨w.heap.size, 7, none⟩ = some (.int .i64 t1) := (blk_cell HT.out.1 7).trans rfl
   cases aB with
   | false =>
    go_wp2
    repeat (go_quiet (fail); try go_wp2)
    go_meet
    case rel => exact ⟨by first | rfl | (simp; done), ⟨(by (with_reducible repeat (first | apply RefAt.drewN | apply RefAt.drew)); exact HT.out)⟩⟩
   | true =>
    cases hd : dB with
    | false =>
     have hdd := HD.out
     rw [hd] at hdd
     have HDB := Aside0.mk hd
     clear hd
     go_wp2_with (first | (go_at_call 74; (with_reducible refine (hin _ _).mono ?_); rintro e w' ⟨rfl, ⟨nd, rfl⟩⟩; (try exact zW)) | (go_at_call 73; (with_reducible refine (slot_calls _ _ _ _ _).mono ?_); rintro e w' ⟨rfl, ⟨nd, rfl⟩⟩; (try exact zW)))
     repeat (go_quiet (first | (go_at_call 74; (with_reducible refine (hin _ _).mono ?_); rintro e w' ⟨rfl, ⟨nd, rfl⟩⟩; (try exact zW)) | (go_at_call 73; (with_reducible refine (slot_calls _ _ _ _ _).mono ?_); rintro e w' ⟨rfl, ⟨nd, rfl⟩⟩; (try exact zW))); try go_wp2_with (first | (go_at_call 74; (with_reducible refine (hin _ _).mono ?_); rintro e w' ⟨rfl, ⟨nd, rfl⟩⟩; (try exact zW)) | (go_at_call 73; (with_reducible refine (slot_calls _ _ _ _ _).mono ?_); rintro e w' ⟨rfl, ⟨nd, rfl⟩⟩; (try exact zW))))
     go_meet
     case rel => exact ⟨by rw [HDB.out]; first | rfl | (simp; done), ⟨(by (with_reducible repeat (first | apply RefAt.drewN | apply RefAt.drew)); exact HT.out)⟩⟩
    | true =>
     have hdd := HD.out
     rw [hd] at hdd
     have HDB := Aside0.mk hd
     clear hd
     have hbb := HBb.out
     go_wp2_with (first | (go_at_call 74; (with_reducible refine (hin _ _).mono ?_); rintro e w' ⟨rfl, ⟨nd, rfl⟩⟩; (try exact zW)) | (go_at_call 73; (with_reducible refine (slot_calls _ _ _ _ _).mono ?_); rintro e w' ⟨rfl, ⟨nd, rfl⟩⟩; (try exact zW)))
     repeat (go_quiet (first | (go_at_call 74; (with_reducible refine (hin _ _).mono ?_); rintro e w' ⟨rfl, ⟨nd, rfl⟩⟩; (try exact zW)) | (go_at_call 73; (with_reducible refine (slot_calls _ _ _ _ _).mono ?_); rintro e w' ⟨rfl, ⟨nd, rfl⟩⟩; (try exact zW))); try go_wp2_with (first | (go_at_call 74; (with_reducible refine (hin _ _).mono ?_); rintro e w' ⟨rfl, ⟨nd, rfl⟩⟩; (try exact zW)) | (go_at_call 73; (with_reducible refine (slot_calls _ _ _ _ _).mono ?_); rintro e w' ⟨rfl, ⟨nd, rfl⟩⟩; (try exact zW))))
     go_meet
     case rel => exact ⟨by rw [HDB.out]; first | rfl | (simp; done) | (simp [hbb]; done), ⟨(by (with_reducible repeat (first | apply RefAt.drewN | apply RefAt.drew)); exact HT.out)⟩⟩
  case rest =>
   obtain ⟨rfl, HT⟩ := hcut
   cases h59 : (aB && dB && bB) with
   | false =>
    have HF := Aside0.mk (show refB op d a b nn l t0 t1 size n funcs = false by rw [HE.out, h59]; rfl)
    clear HE
    go_wp2
    repeat (go_quiet (fail); try go_wp2)
    go_ret
    exact ⟨by rw [HF.out]; first | rfl | (simp; done), ((by (with_reducible repeat (first | apply RefAt.drewN | apply RefAt.drew)); exact HT.out) : RefAt _ _ _ _).2⟩
   | true =>
    have he3 := HE.out
    rw [h59, Bool.true_and] at he3
    have HE := Aside0.mk he3
    clear he3 h59 HA HD HBb
    go_upto_region 9 with (fail)
    repeat (go_quiet (fail); go_upto_region 9 with (fail))
    go_cut [86] (fun v86 wc => v86 = .bool nB ∧ Aside0 (RefAt w.heap.size #[.int .i64 op, .int .i64 d, .int .i64 a, .int .i64 b, .int .i64 nn, .slice A5 l.length c5, .int .i64 t0, .int .i64 t1] w wc))
    case first =>
     have cx0 : wc.cell? ⟨w.heap.size, 0, none⟩ = some (.int .i64 op) := (blk_cell HT.out.1 0).trans rfl
     have cx1 : wc.cell? ⟨w.heap.size, 1, none⟩ = some (.int .i64 d) := (blk_cell HT.out.1 1).trans rfl
     have cx2 : wc.cell? ⟨w.heap.size, 2, none⟩ = some (.int .i64 a) := (blk_cell HT.out.1 2).trans rfl
     have cx3 : wc.cell? ⟨w.heap.size, 3, none⟩ = some (.int .i64 b) := (blk_cell HT.out.1 3).trans rfl
     have cx4 : wc.cell? ⟨w.heap.size, 4, none⟩ = some (.int .i64 nn) := (blk_cell HT.out.1 4).trans rfl
     have cx5 : wc.cell? ⟨w.heap.size, 5, none⟩ = some (.slice A5 l.length c5) := (blk_cell HT.out.1 5).trans rfl
     have cx6 : wc.cell? ⟨w.heap.size, 6, none⟩ = some (.int .i64 t0) := (blk_cell HT.out.1 6).trans rfl
     have cx7 : wc.cell? ⟨w.heap.size, 7, none⟩ = some (.int .i64 t1) := (blk_cell HT.out.1 7).trans rfl
     have hn := HN.out
     cases h115 : hasC s 115 with
     | true =>
      have hin115 := fun W => hin 115 W
      rw [h115] at hin115 hn
      cases h1 : decide (nn < 0) with
      | true =>
       have HV := Aside0.mk (show nB = true by rw [← hn, h1]; rfl)
       clear hn
       clear h115 hin
       go_wp2_with (first | (go_at_call 74; (with_reducible refine (hin115 _).mono ?_); rintro e w' ⟨rfl, ⟨nd, rfl⟩⟩; (try exact zW)))
       repeat (go_quiet (first | (go_at_call 74; (with_reducible refine (hin115 _).mono ?_); rintro e w' ⟨rfl, ⟨nd, rfl⟩⟩; (try exact zW))); try go_wp2_with (first | (go_at_call 74; (with_reducible refine (hin115 _).mono ?_); rintro e w' ⟨rfl, ⟨nd, rfl⟩⟩; (try exact zW))))
       go_meet
       case rel => exact ⟨by rw [HV.out], ⟨(by (with_reducible repeat (first | apply RefAt.drewN | apply RefAt.drew)); exact HT.out)⟩⟩
      | false =>
       cases h2 : decide (2097152 ≤ nn) with
       | true =>
        have HV := Aside0.mk (show nB = true by rw [← hn, h1, h2]; rfl)
        clear hn
        clear h115 hin
        go_wp2_with (first | (go_at_call 74; (with_reducible refine (hin115 _).mono ?_); rintro e w' ⟨rfl, ⟨nd, rfl⟩⟩; (try exact zW)))
        repeat (go_quiet (first | (go_at_call 74; (with_reducible refine (hin115 _).mono ?_); rintro e w' ⟨rfl, ⟨nd, rfl⟩⟩; (try exact zW))); try go_wp2_with (first | (go_at_call 74; (with_reducible refine (hin115 _).mono ?_); rintro e w' ⟨rfl, ⟨nd, rfl⟩⟩; (try exact zW))))
        go_meet
        case rel => exact ⟨by rw [HV.out], ⟨(by (with_reducible repeat (first | apply RefAt.drewN | apply RefAt.drew)); exact HT.out)⟩⟩
       | false =>
        have HV := Aside0.mk (show nB = false by rw [← hn, h1, h2]; rfl)
        clear hn
        clear h115 hin
        go_wp2_with (first | (go_at_call 74; (with_reducible refine (hin115 _).mono ?_); rintro e w' ⟨rfl, ⟨nd, rfl⟩⟩; (try exact zW)))
        repeat (go_quiet (first | (go_at_call 74; (with_reducible refine (hin115 _).mono ?_); rintro e w' ⟨rfl, ⟨nd, rfl⟩⟩; (try exact zW))); try go_wp2_with (first | (go_at_call 74; (with_reducible refine (hin115 _).mono ?_); rintro e w' ⟨rfl, ⟨nd, rfl⟩⟩; (try exact zW))))
        go_meet
        case rel => exact ⟨by rw [HV.out], ⟨(by (with_reducible repeat (first | apply RefAt.drewN | apply RefAt.drew)); exact HT.out)⟩⟩
     | false =>
      have hin115 := fun W => hin 115 W
      rw [h115] at hin115 hn
      cases h119 : hasC s 119 with
      | true =>
       have hin119 := fun W => hin 119 W
       rw [h119] at hin119 hn
       have HV := Aside0.mk (show nB = false by rw [← hn]; simp)
       clear hn h119
       clear h115 hin
       go_wp2_with (first | (go_at_call 74; (with_reducible refine (hin115 _).mono ?_); rintro e w' ⟨rfl, ⟨nd, rfl⟩⟩; (try exact zW)) | (go_at_call 74; (with_reducible refine (hin119 _).mono ?_); rintro e w' ⟨rfl, ⟨nd, rfl⟩⟩; (try exact zW)))
       repeat (go_quiet (first | (go_at_call 74; (with_reducible refine (hin115 _).mono ?_); rintro e w' ⟨rfl, ⟨nd, rfl⟩⟩; (try exact zW)) | (go_at_call 74; (with_reducible refine (hin119 _).mono ?_); rintro e w' ⟨rfl, ⟨nd, rfl⟩⟩; (try exact zW))); try go_wp2_with (first | (go_at_call 74; (with_reducible refine (hin115 _).mono ?_); rintro e w' ⟨rfl, ⟨nd, rfl⟩⟩; (try exact zW)) | (go_at_call 74; (with_reducible refine (hin119 _).mono ?_); rintro e w' ⟨rfl, ⟨nd, rfl⟩⟩; (try exact zW))))
       go_meet
       case rel => exact ⟨by rw [HV.out], ⟨(by (with_reducible repeat (first | apply RefAt.drewN | apply RefAt.drew)); exact HT.out)⟩⟩
      | false =>
       have hin119 := fun W => hin 119 W
       rw [h119] at hin119 hn
       clear h119
       cases h3 : (nn != 0) with
       | true =>
        have HV := Aside0.mk (show nB = true by rw [← hn, h3]; rfl)
        clear hn
        clear h115 hin
        go_wp2_with (first | (go_at_call 74; (with_reducible refine (hin115 _).mono ?_); rintro e w' ⟨rfl, ⟨nd, rfl⟩⟩; (try exact zW)) | (go_at_call 74; (with_reducible refine (hin119 _).mono ?_); rintro e w' ⟨rfl, ⟨nd, rfl⟩⟩; (try exact zW)))
        repeat (go_quiet (first | (go_at_call 74; (with_reducible refine (hin115 _).mono ?_); rintro e w' ⟨rfl, ⟨nd, rfl⟩⟩; (try exact zW)) | (go_at_call 74; (with_reducible refine (hin119 _).mono ?_); rintro e w' ⟨rfl, ⟨nd, rfl⟩⟩; (try exact zW))); try go_wp2_with (first | (go_at_call 74; (with_reducible refine (hin115 _).mono ?_); rintro e w' ⟨rfl, ⟨nd, rfl⟩⟩; (try exact zW)) | (go_at_call 74; (with_reducible refine (hin119 _).mono ?_); rintro e w' ⟨rfl, ⟨nd, rfl⟩⟩; (try exact zW))))
        go_meet
        case rel => exact ⟨by rw [HV.out], ⟨(by (with_reducible repeat (first | apply RefAt.drewN | apply RefAt.drew)); exact HT.out)⟩⟩
       | false =>
        have HV := Aside0.mk (show nB = false by rw [← hn, h3]; rfl)
        clear hn
        clear h115 hin
        go_wp2_with (first | (go_at_call 74; (with_reducible refine (hin115 _).mono ?_); rintro e w' ⟨rfl, ⟨nd, rfl⟩⟩; (try exact zW)) | (go_at_call 74; (with_reducible refine (hin119 _).mono ?_); rintro e w' ⟨rfl, ⟨nd, rfl⟩⟩; (try exact zW)))
        repeat (go_quiet (first | (go_at_call 74; (with_reducible refine (hin115 _).mono ?_); rintro e w' ⟨rfl, ⟨nd, rfl⟩⟩; (try exact zW)) | (go_at_call 74; (with_reducible refine (hin119 _).mono ?_); rintro e w' ⟨rfl, ⟨nd, rfl⟩⟩; (try exact zW))); try go_wp2_with (first | (go_at_call 74; (with_reducible refine (hin115 _).mono ?_); rintro e w' ⟨rfl, ⟨nd, rfl⟩⟩; (try exact zW)) | (go_at_call 74; (with_reducible refine (hin119 _).mono ?_); rintro e w' ⟨rfl, ⟨nd, rfl⟩⟩; (try exact zW))))
        go_meet
        case rel => exact ⟨by rw [HV.out], ⟨(by (with_reducible repeat (first | apply RefAt.drewN | apply RefAt.drew)); exact HT.out)⟩⟩
    case rest =>
     obtain ⟨rfl, HT⟩ := hcut
     cases nB with
     | true =>
      have HF := Aside0.mk (show refB op d a b nn l t0 t1 size n funcs = false by rw [HE.out]; simp)
      clear HE
      go_wp2
      repeat (go_quiet (fail); try go_wp2)
      go_ret
      exact ⟨by rw [HF.out]; first | rfl | (simp; done), ((by (with_reducible repeat (first | apply RefAt.drewN | apply RefAt.drew)); exact HT.out) : RefAt _ _ _ _).2⟩
     | false =>
      have he4 := HE.out
      rw [Bool.not_false, Bool.true_and] at he4
      have HE := Aside0.mk he4
      clear he4 HN
      go_upto_region 11 with (fail)
      repeat (go_quiet (fail); go_upto_region 11 with (fail))
      go_cut [106] (fun v106 wc => v106 = .bool lB ∧ Aside0 (RefAt w.heap.size #[.int .i64 op, .int .i64 d, .int .i64 a, .int .i64 b, .int .i64 nn, .slice A5 l.length c5, .int .i64 t0, .int .i64 t1] w wc))
      case first =>
       have cx0 : wc.cell? ⟨w.heap.size, 0, none⟩ = some (.int .i64 op) := (blk_cell HT.out.1 0).trans rfl
       have cx1 : wc.cell? ⟨w.heap.size, 1, none⟩ = some (.int .i64 d) := (blk_cell HT.out.1 1).trans rfl
       have cx2 : wc.cell? ⟨w.heap.size, 2, none⟩ = some (.int .i64 a) := (blk_cell HT.out.1 2).trans rfl
       have cx3 : wc.cell? ⟨w.heap.size, 3, none⟩ = some (.int .i64 b) := (blk_cell HT.out.1 3).trans rfl
       have cx4 : wc.cell? ⟨w.heap.size, 4, none⟩ = some (.int .i64 nn) := (blk_cell HT.out.1 4).trans rfl
       have cx5 : wc.cell? ⟨w.heap.size, 5, none⟩ = some (.slice A5 l.length c5) := (blk_cell HT.out.1 5).trans rfl
       have cx6 : wc.cell? ⟨w.heap.size, 6, none⟩ = some (.int .i64 t0) := (blk_cell HT.out.1 6).trans rfl
       have cx7 : wc.cell? ⟨w.heap.size, 7, none⟩ = some (.int .i64 t1) := (blk_cell HT.out.1 7).trans rfl
       have hl := HLb.out
       have HCR := Aside0.mk (Kd.C_below HR5.out HT.out.2)
       cases h108 : hasC s 108 with
       | true =>
        have hin108 := fun W => hin 108 W
        rw [h108] at hin108 hl
        clear h108 hin
        cases hall : allB l size with
        | false =>
         have HV := Aside0.mk (show lB = true by rw [← hl, hall]; rfl)
         clear hl
         go_wp2_with (first | (go_at_call 74; (with_reducible refine (hin108 _).mono ?_); rintro e w' ⟨rfl, ⟨nd, rfl⟩⟩; (try exact zW)) | (go_at_call 43; (with_reducible refine (all_calls l A5 c5 size _ ?k1 HC5.out HL.out).mono ?_); (case k1 => (with_reducible repeat (first | refine Kd.C_drewN ?_ _ | refine Kd.C_drew ?_)); exact HCR.out); rintro e w' ⟨rfl, ⟨nd, rfl⟩⟩; (try exact zW)))
         repeat (go_quiet (first | (go_at_call 74; (with_reducible refine (hin108 _).mono ?_); rintro e w' ⟨rfl, ⟨nd, rfl⟩⟩; (try exact zW)) | (go_at_call 43; (with_reducible refine (all_calls l A5 c5 size _ ?k1 HC5.out HL.out).mono ?_); (case k1 => (with_reducible repeat (first | refine Kd.C_drewN ?_ _ | refine Kd.C_drew ?_)); exact HCR.out); rintro e w' ⟨rfl, ⟨nd, rfl⟩⟩; (try exact zW))); try go_wp2_with (first | (go_at_call 74; (with_reducible refine (hin108 _).mono ?_); rintro e w' ⟨rfl, ⟨nd, rfl⟩⟩; (try exact zW)) | (go_at_call 43; (with_reducible refine (all_calls l A5 c5 size _ ?k1 HC5.out HL.out).mono ?_); (case k1 => (with_reducible repeat (first | refine Kd.C_drewN ?_ _ | refine Kd.C_drew ?_)); exact HCR.out); rintro e w' ⟨rfl, ⟨nd, rfl⟩⟩; (try exact zW))))
         go_meet
         case rel => exact ⟨by rw [HV.out], ⟨(by (with_reducible repeat (first | apply RefAt.drewN | apply RefAt.drew)); exact HT.out)⟩⟩
        | true =>
         have HV := Aside0.mk (show lB = false by rw [← hl, hall]; rfl)
         clear hl
         go_wp2_with (first | (go_at_call 74; (with_reducible refine (hin108 _).mono ?_); rintro e w' ⟨rfl, ⟨nd, rfl⟩⟩; (try exact zW)) | (go_at_call 43; (with_reducible refine (all_calls l A5 c5 size _ ?k1 HC5.out HL.out).mono ?_); (case k1 => (with_reducible repeat (first | refine Kd.C_drewN ?_ _ | refine Kd.C_drew ?_)); exact HCR.out); rintro e w' ⟨rfl, ⟨nd, rfl⟩⟩; (try exact zW)))
         repeat (go_quiet (first | (go_at_call 74; (with_reducible refine (hin108 _).mono ?_); rintro e w' ⟨rfl, ⟨nd, rfl⟩⟩; (try exact zW)) | (go_at_call 43; (with_reducible refine (all_calls l A5 c5 size _ ?k1 HC5.out HL.out).mono ?_); (case k1 => (with_reducible repeat (first | refine Kd.C_drewN ?_ _ | refine Kd.C_drew ?_)); exact HCR.out); rintro e w' ⟨rfl, ⟨nd, rfl⟩⟩; (try exact zW))); try go_wp2_with (first | (go_at_call 74; (with_reducible refine (hin108 _).mono ?_); rintro e w' ⟨rfl, ⟨nd, rfl⟩⟩; (try exact zW)) | (go_at_call 43; (with_reducible refine (all_calls l A5 c5 size _ ?k1 HC5.out HL.out).mono ?_); (case k1 => (with_reducible repeat (first | refine Kd.C_drewN ?_ _ | refine Kd.C_drew ?_)); exact HCR.out); rintro e w' ⟨rfl, ⟨nd, rfl⟩⟩; (try exact zW))))
         go_meet
         case rel => exact ⟨by rw [HV.out], ⟨(by (with_reducible repeat (first | apply RefAt.drewN | apply RefAt.drew)); exact HT.out)⟩⟩
       | false =>
        have hin108 := fun W => hin 108 W
        rw [h108] at hin108 hl
        clear h108 hin
        cases hz : (l.length != 0) with
        | true =>
         have HV := Aside0.mk (show lB = true by rw [← hl, hz]; rfl)
         clear hl
         have hz2 : ((l.length : Int) != 0) = true := by rw [← hz]; exact congrArg Bool.not (beq_nat0 l.length)
         go_wp2_with (first | (go_at_call 74; (with_reducible refine (hin108 _).mono ?_); rintro e w' ⟨rfl, ⟨nd, rfl⟩⟩; (try exact zW)))
         repeat (go_quiet (first | (go_at_call 74; (with_reducible refine (hin108 _).mono ?_); rintro e w' ⟨rfl, ⟨nd, rfl⟩⟩; (try exact zW))); try go_wp2_with (first | (go_at_call 74; (with_reducible refine (hin108 _).mono ?_); rintro e w' ⟨rfl, ⟨nd, rfl⟩⟩; (try exact zW))))
         go_meet
         case rel => exact ⟨by rw [HV.out], ⟨(by (with_reducible repeat (first | apply RefAt.drewN | apply RefAt.drew)); exact HT.out)⟩⟩
        | false =>
         have HV := Aside0.mk (show lB = false by rw [← hl, hz]; rfl)
         clear hl
         have hz2 : ((l.length : Int) != 0) = false := by rw [← hz]; exact congrArg Bool.not (beq_nat0 l.length)
         go_wp2_with (first | (go_at_call 74; (with_reducible refine (hin108 _).mono ?_); rintro e w' ⟨rfl, ⟨nd, rfl⟩⟩; (try exact zW)))
         repeat (go_quiet (first | (go_at_call 74; (with_reducible refine (hin108 _).mono ?_); rintro e w' ⟨rfl, ⟨nd, rfl⟩⟩; (try exact zW))); try go_wp2_with (first | (go_at_call 74; (with_reducible refine (hin108 _).mono ?_); rintro e w' ⟨rfl, ⟨nd, rfl⟩⟩; (try exact zW))))
         go_meet
         case rel => exact ⟨by rw [HV.out], ⟨(by (with_reducible repeat (first | apply RefAt.drewN | apply RefAt.drew)); exact HT.out)⟩⟩
      case rest =>
       obtain ⟨rfl, HT⟩ := hcut
       cases lB with
       | true =>
        have HF := Aside0.mk (show refB op d a b nn l t0 t1 size n funcs = false by rw [HE.out]; simp)
        clear HE
        go_wp2
        repeat (go_quiet (fail); try go_wp2)
        go_ret
        exact ⟨by rw [HF.out]; first | rfl | (simp; done), ((by (with_reducible repeat (first | apply RefAt.drewN | apply RefAt.drew)); exact HT.out) : RefAt _ _ _ _).2⟩
       | false =>
        have he5 := HE.out
        rw [Bool.not_false, Bool.true_and] at he5
        have HE := Aside0.mk he5
        clear he5 HLb
        have cx0 : wc.cell? ⟨w.heap.size, 0, none⟩ = some (.int .i64 op) := (blk_cell HT.out.1 0).trans rfl
        have cx1 : wc.cell? ⟨w.heap.size, 1, none⟩ = some (.int .i64 d) := (blk_cell HT.out.1 1).trans rfl
        have cx2 : wc.cell? ⟨w.heap.size, 2, none⟩ = some (.int .i64 a) := (blk_cell HT.out.1 2).trans rfl
        have cx3 : wc.cell? ⟨w.heap.size, 3, none⟩ = some (.int .i64 b) := (blk_cell HT.out.1 3).trans rfl
        have cx4 : wc.cell? ⟨w.heap.size, 4, none⟩ = some (.int .i64 nn) := (blk_cell HT.out.1 4).trans rfl
        have cx5 : wc.cell? ⟨w.heap.size, 5, none⟩ = some (.slice A5 l.length c5) := (blk_cell HT.out.1 5).trans rfl
        have cx6 : wc.cell? ⟨w.heap.size, 6, none⟩ = some (.int .i64 t0) := (blk_cell HT.out.1 6).trans rfl
        have cx7 : wc.cell? ⟨w.heap.size, 7, none⟩ = some (.int .i64 t1) := (blk_cell HT.out.1 7).trans rfl
        have hp := HPb.out
        have hq := HQb.out
        cases h111 : hasC s 111 <;> cases h116 : hasC s 116 <;> cases hpb : pB
        all_goals
         have hpl := fun W => place_calls (hasC s 111 || hasC s 116) t0 n W
         have hql := fun W => place_calls (hasC s 116) t1 n W
         rw [hp, hpb, h111, h116] at hpl
         rw [hq, h116] at hql
         have hin111 := fun W => hin 111 W
         have hin116 := fun W => hin 116 W
         rw [h111] at hin111
         rw [h116] at hin116
         have HF := Aside0.mk (show refB op d a b nn l t0 t1 size n funcs = (pB && qB) from HE.out)
         rw [hpb] at HF
         simp only [Bool.or_false, Bool.or_true, Bool.true_or, Bool.false_or] at hpl
         clear h111 h116 hin hpb HE hp hq
         go_wp2_with (first | (go_at_call 74; (with_reducible refine (hin111 _).mono ?_); rintro e w' ⟨rfl, ⟨nd, rfl⟩⟩; (try exact zW)) | (go_at_call 74; (with_reducible refine (hin116 _).mono ?_); rintro e w' ⟨rfl, ⟨nd, rfl⟩⟩; (try exact zW)) | (go_at_call 75; (with_reducible refine (hpl _).mono ?_); rintro e w' ⟨rfl, ⟨nd, rfl⟩⟩; (try exact zW)) | (go_at_call 75; (with_reducible refine (hql _).mono ?_); rintro e w' ⟨rfl, ⟨nd, rfl⟩⟩; (try exact zW)))
         repeat (go_quiet (first | (go_at_call 74; (with_reducible refine (hin111 _).mono ?_); rintro e w' ⟨rfl, ⟨nd, rfl⟩⟩; (try exact zW)) | (go_at_call 74; (with_reducible refine (hin116 _).mono ?_); rintro e w' ⟨rfl, ⟨nd, rfl⟩⟩; (try exact zW)) | (go_at_call 75; (with_reducible refine (hpl _).mono ?_); rintro e w' ⟨rfl, ⟨nd, rfl⟩⟩; (try exact zW)) | (go_at_call 75; (with_reducible refine (hql _).mono ?_); rintro e w' ⟨rfl, ⟨nd, rfl⟩⟩; (try exact zW))); try go_wp2_with (first | (go_at_call 74; (with_reducible refine (hin111 _).mono ?_); rintro e w' ⟨rfl, ⟨nd, rfl⟩⟩; (try exact zW)) | (go_at_call 74; (with_reducible refine (hin116 _).mono ?_); rintro e w' ⟨rfl, ⟨nd, rfl⟩⟩; (try exact zW)) | (go_at_call 75; (with_reducible refine (hpl _).mono ?_); rintro e w' ⟨rfl, ⟨nd, rfl⟩⟩; (try exact zW)) | (go_at_call 75; (with_reducible refine (hql _).mono ?_); rintro e w' ⟨rfl, ⟨nd, rfl⟩⟩; (try exact zW))))
         go_ret
         exact ⟨by rw [HF.out]; first | rfl | (simp [*]; done), ((by (with_reducible repeat (first | apply RefAt.drewN | apply RefAt.drew)); exact HT.out) : RefAt _ _ _ _).2⟩
end Go.Proofs.Ytkgjbdbhpohkiaa.PLi
end
