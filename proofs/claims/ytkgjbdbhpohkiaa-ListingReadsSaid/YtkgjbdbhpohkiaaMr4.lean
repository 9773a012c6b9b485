import Derived.Test.YtkgjbdbhpohkiaaMr2
import Derived.Test.YtkgjbdbhpohkiaaMr3
-- from YtkgjbdbhpohkiaaHPrint
section
namespace Go.Proofs.Ytkgjbdbhpohkiaa.PLi
open Go.RowKit Go.Proofs.YtkgjbdbhpohkiaaW.PrintWords Go.Proofs.YtkgjbdbhpohkiaaW.PrintLast Go.Proofs.YtkgjbdbhpohkiaaW.PrintMore Go.Proofs.Ytkgjbdbhpohkiaa.Dig
set_option linter.unusedVariables false
set_option linter.unusedSimpArgs false
def digits_Print.f (a0 : Int) : Option ByteArray := if -9223372036854775808 ≤ a0 then (if a0 ≤ 9223372036854775807 then some ⟨(digs a0).toArray⟩ else none) else none
def u8s (L : List Int) : Array Value := (L.map (Value.int .u8)).toArray
theorem u8s_set (L : List Int) (i : Nat) (x : Int) : (u8s L).setIfInBounds i (.int .u8 x) = u8s (L.set i x) := by
 apply Array.toList_inj.1
 simp [u8s, List.map_set]
theorem u8s_get {L : List Int} {i : Nat} (h : i < L.length) : (u8s L)[i]? = some (.int .u8 (L[i])) := by
 simp [u8s, h]
theorem reads_tail {w : World} {g : Nat} {L : List Int} {t : TypeId} (h : w.heap[g]? = some (.cells (u8s L) t (0, 0))) (i : Nat) (hi : i ≤ L.length) (hl : L.length ≤ 9223372036854775807) : (Kd.int .u8).C w (some ⟨g, i, none⟩) (L.drop i).length (L.drop i) := by
 refine ⟨rfl, by rw [List.length_drop]; omega, fun _ => ⟨_, rfl, fun j p hj => ⟨[.int .u8 p], rfl, rfl, fun q u hu => ?_⟩⟩⟩
 have hq : q = 0 := by
  have := (List.getElem?_eq_some_iff.1 hu).1
  simpa using this
 subst hq
 have hsz : (Kd.int .u8).sz = 1 := rfl
 rw [hsz, Nat.mul_one, Nat.add_zero, add_at, blk_cell h]
 have hj2 := (List.getElem?_eq_some_iff.1 hj).1
 rw [List.length_drop] at hj2
 rw [u8s_get (by omega)]
 rw [List.getElem?_drop, List.getElem?_eq_getElem (by omega)] at hj
 simp at hu hj
 rw [← hu, hj]
theorem slice20 (g i : Nat) (hi : i ≤ 19) (w : World) : (Instr.sliceAt 80 (.pointer (some ⟨g, 0, none⟩)) (some (.int .i64 (i : Int))) none none).run Try.prog w = .ok (.slice (some ⟨g, i, none⟩) (20 - i) (20 - i)) w := by
 have hl : Try.prog.arrayLen 80 = 20 := by kernel_rfl
 have hs : (sizeOf (Try.prog.elem 80)).run Try.prog w = .ok 1 w := by kernel_rfl
 rw [run_sliceAt_array_l w 80 ⟨g, 0, none⟩ (by kernel_rfl) .i64 (i : Int) (by omega) (by rw [hl]; omega), hs, hl]
 simp only [Result.andThen, slicedAt, Int.toNat_natCast, Nat.mul_one, add_plain]
 rw [if_neg (by omega)]
theorem conv_tail {w : World} {g : Nat} {L : List Int} (h : w.heap[g]? = some (.cells (u8s L) 80 (0, 0))) (hL : L.length = 20) (i : Nat) (hi : i ≤ 20) (l : List UInt8) (hd : L.drop i = l.map (fun c => (c.toNat : Int))) :
  ∀ c, (convert 54 9 (.slice (some ⟨g, i, none⟩) (20 - i) c)).run Try.prog w = .ok (.string ⟨l.toArray⟩) w := by
 intro c
 have e : 20 - i = (L.drop i).length := by rw [List.length_drop, hL]
 rw [e, Kd.C_string (P := Try.prog) Try.underlying54 Try.underlying5 Try.underlying9 (reads_tail h i (by omega) (by omega)), hd, str_of]
def AtHead (w : World) (a0 : Int) (at_ k : Value) (wr : World) : Prop := ∃ (m : Nat) (kk : Int) (L : List Int), at_ = .int .i64 (20 - (m : Int)) ∧ k = .int .i64 kk ∧ Aside0 (Inv a0 m kk L) ∧ Aside0 (wr.heap[w.heap.size]? = some (.cells (u8s L) 80 (0, 0))) ∧ Aside0 (Below w.heap.size w wr)
set_option maxHeartbeats 1000000 in
set_option maxRecDepth 100000 in
theorem digits_Print.calls (a0 : Int) (r : ByteArray) (w : World) (h : digits_Print.f a0 = some r) :
  Calls Try.prog 26 #[.int .i64 a0] w fun e w' => e = .returned (.string r) ∧ Below w.heap.size w w' := by
 unfold digits_Print.f at h
 by_cases hlo : -9223372036854775808 ≤ a0
 case neg => rw [if_neg hlo] at h; cases h
 by_cases hhi : a0 ≤ 9223372036854775807
 case neg => rw [if_pos hlo, if_neg hhi] at h; cases h
 rw [if_pos hlo, if_pos hhi] at h
 obtain rfl := Option.some.inj h
 clear h
 by_cases hz : a0 = 0
 ·subst hz
  go_enter Try.func26, Try.ntmps26
  go_wp2
  go_ret
  exact ⟨rfl, Below.refl _ _⟩
 ·have h0 : (a0 == 0) = false := by simpa using hz
  have HI := Aside0.mk (inv_start hlo hhi)
  have HZ := Aside0.mk hz
  clear hz
  go_enter Try.func26, Try.ntmps26
  go_wp2
  go_loopw [4, 5] (fun at_ k wr => AtHead w a0 at_ k wr) (fun _ k _ => (intOf k).natAbs)
  case atStart => exact ⟨0, a0, _, by simp, rfl, HI, ⟨blk_new w _⟩, ⟨(Below.refl _ _).alloc (Nat.le_refl _) _⟩⟩
  case round =>
   obtain ⟨m, kk, L, rfl, rfl, HV, HB, HW⟩ := hrel
   clear HI
   by_cases hk : kk = 0
   ·subst hk
    have hm19 : m ≤ 19 := HV.out.m19
    have hlen := HV.out.len
    have hend : L.drop (20 - m) = (pd a0.natAbs).map (fun c => (c.toNat : Int)) := inv_end HV.out
    have hm1 : 1 ≤ m := by
     rcases Nat.eq_zero_or_pos m with h | h
     ·exfalso
      subst h
      rw [show 20 - 0 = L.length from by rw [hlen], List.drop_length] at hend
      exact pd_ne_nil (n := a0.natAbs) (by have := HZ.out; omega) (by simpa using hend.symm)
     ·exact h
    have HE := Aside0.mk hend
    clear hend
    by_cases hneg : a0 < 0
    ·have hd : decide (a0 < 0) = true := decide_eq_true hneg
     obtain ⟨v0, hc⟩ : ∃ v, wr.cell? ⟨w.heap.size, 19 - m, none⟩ = some v := ⟨_, (blk_cell HB.out _).trans (u8s_get (by omega))⟩
     have hf : wr.frozen? ⟨w.heap.size, 19 - m, none⟩ = false := blk_frozen HB.out _
     have hcv := conv_tail (w := wr.setCell ⟨w.heap.size, 19 - m, none⟩ (.int .u8 45)) (g := w.heap.size) (L := L.set (19 - m) 45) (by rw [← u8s_set]; exact blk_set HB.out (19 - m) (.int .u8 45)) (by rw [List.length_set]; exact hlen) (19 - m) (by omega) (45 :: pd a0.natAbs) (inv_minus HV.out)
     have hsl := slice20 w.heap.size (19 - m) (by omega)
     have hs1 : (20 - (m : Int)) - 1 = ((19 - m : Nat) : Int) := by omega
     clear hlen
     go_wp2
     go_ret
     have e : digs a0 = 45 :: pd a0.natAbs := by unfold digs; rw [if_neg HZ.out, if_pos (by omega)]
     rw [e]
     exact ⟨rfl, HW.out.setCell (Nat.le_refl _) _⟩
    ·have hd : decide (a0 < 0) = false := decide_eq_false hneg
     have hcv := conv_tail HB.out hlen (20 - m) (by omega) (pd a0.natAbs) HE.out
     have hsl := slice20 w.heap.size (20 - m) (by omega)
     have hs1 : (20 - (m : Int)) = ((20 - m : Nat) : Int) := by omega
     clear hlen
     go_wp2
     go_ret
     have e : digs a0 = pd a0.natAbs := by unfold digs; rw [if_neg HZ.out, if_neg (by omega)]
     rw [e]
     exact ⟨rfl, HW.out⟩
   ·have hk0 : (kk == 0) = false := by simpa using hk
    have hk1 : (kk != 0) = true := by simpa using hk
    have h18 := ten_pow m kk.natAbs (by omega) (HV.out.pow hk)
    have hlo2 := HV.out.low
    have hhi2 := HV.out.high
    have HL := Aside0.mk HV.out.len
    have hs1 : (20 - (m : Int)) - 1 = ((19 - m : Nat) : Int) := by omega
    obtain ⟨v0, hc⟩ : ∃ v, wr.cell? ⟨w.heap.size, 19 - m, none⟩ = some v := ⟨_, (blk_cell HB.out _).trans (u8s_get (by have := HL.out; omega))⟩
    have hf : wr.frozen? ⟨w.heap.size, 19 - m, none⟩ = false := blk_frozen HB.out _
    rcases Int.lt_or_gt_of_ne hk with hneg | hpos
    ·go_wp2
     ·have hq : kk.tmod 10 < 0 := by assumption
      have e1 : (kk.tmod 10).natAbs = kk.natAbs % 10 := by rw [Int.natAbs_tmod]; rfl
      have e2 : (kk.tdiv 10).natAbs = kk.natAbs / 10 := by rw [Int.natAbs_tdiv]; rfl
      refine ⟨⟨m + 1, kk.tdiv 10, L.set (19 - m) ((48 + wrap64 (-kk.tmod 10)) % 256), congrArg (Value.int .i64) (by omega), rfl, ⟨inv_step HV.out hk _ ?_ _ rfl⟩, ⟨by rw [← u8s_set]; exact blk_set HB.out (19 - m) _⟩, ⟨HW.out.setCell (Nat.le_refl _) _⟩⟩, by simp only [intOf]; omega⟩
      unfold wrap64; omega
     ·have hq : 0 ≤ kk.tmod 10 := by assumption
      have e1 : (kk.tmod 10).natAbs = kk.natAbs % 10 := by rw [Int.natAbs_tmod]; rfl
      have e2 : (kk.tdiv 10).natAbs = kk.natAbs / 10 := by rw [Int.natAbs_tdiv]; rfl
      refine ⟨⟨m + 1, kk.tdiv 10, L.set (19 - m) ((48 + kk.tmod 10) % 256), congrArg (Value.int .i64) (by omega), rfl, ⟨inv_step HV.out hk _ ?_ _ rfl⟩, ⟨by rw [← u8s_set]; exact blk_set HB.out (19 - m) _⟩, ⟨HW.out.setCell (Nat.le_refl _) _⟩⟩, by simp only [intOf]; omega⟩
      omega
    ·have hd : decide (kk % 10 < 0) = false := decide_eq_false (by omega)
     go_wp2
     refine ⟨⟨m + 1, kk / 10, L.set (19 - m) (48 + kk % 10), congrArg (Value.int .i64) (by omega), rfl, ⟨inv_step HV.out hk _ ?_ _ ?_⟩, ⟨by rw [← u8s_set]; exact blk_set HB.out (19 - m) _⟩, ⟨HW.out.setCell (Nat.le_refl _) _⟩⟩, by simp only [intOf]; omega⟩
     ·have : kk = (kk.natAbs : Int) := by omega
      omega
     ·rw [Int.tdiv_eq_ediv_of_nonneg (by omega)]
end Go.Proofs.Ytkgjbdbhpohkiaa.PLi
end
