import Derived.Test.YtkgjbdbhpohkiaaMw0
import Derived.Test.YtkgjbdbhpohkiaaMw1
import Derived.ChangeKeysEq
import Derived.Shelf.Strings.OnBuilder
import Derived.Shelf.Strings.BuilderK
import Derived.Test.YtkgjbdbhpohkiaaProg
-- from YtkgjbdbhpohkiaaDigPure
section
namespace Go.Proofs.Ytkgjbdbhpohkiaa.Dig
def pd (n : Nat) : List UInt8 := if _h : n = 0 then [] else pd (n / 10) ++ [UInt8.ofNat (48 + n % 10)]
termination_by n
decreasing_by omega
theorem pd_zero : pd 0 = [] := by unfold pd; simp
theorem pd_pos {n : Nat} (h : n ≠ 0) : pd n = pd (n / 10) ++ [UInt8.ofNat (48 + n % 10)] := by rw [pd]; simp [h]
def digs (n : Int) : List UInt8 := if n = 0 then [48] else if n < 0 then 45 :: pd n.natAbs else pd n.natAbs
theorem pd_len : ∀ (m n : Nat), n < 10 ^ m → (pd n).length ≤ m := by
  intro m
  induction m with
  | zero => intro n h; have : n = 0 := by simpa using h
            subst this; simp [pd_zero]
  | succ m ih =>
    intro n h
    by_cases h0 : n = 0
    · subst h0; simp [pd_zero]
    · rw [pd_pos h0, List.length_append, List.length_singleton]
      have := ih (n / 10) (by rw [Nat.pow_succ] at h; omega)
      omega
theorem pd_ne_nil {n : Nat} (h : n ≠ 0) : pd n ≠ [] := by rw [pd_pos h]; simp
structure Inv (a0 : Int) (m : Nat) (kk : Int) (L : List Int) : Prop where
  len : L.length = 20
  m19 : m ≤ 19
  pow : kk ≠ 0 → kk.natAbs * 10 ^ m ≤ 9223372036854775808
  dig : (pd kk.natAbs).map (fun c => (c.toNat : Int)) ++ L.drop (20 - m) = (pd a0.natAbs).map (fun c => (c.toNat : Int))
  low : -9223372036854775808 ≤ kk
  high : kk ≤ 9223372036854775807
theorem inv_start {a0 : Int} (h0 : -9223372036854775808 ≤ a0) (h1 : a0 ≤ 9223372036854775807) : Inv a0 0 a0 (List.replicate 20 0) where
  len := by simp
  m19 := by omega
  pow := fun _ => by simp; omega
  dig := by simp
  low := h0
  high := h1
theorem ten_pow (m : Nat) (n : Nat) (h0 : n ≠ 0) (h : n * 10 ^ m ≤ 9223372036854775808) : m ≤ 18 := by
  by_cases hm : m ≤ 18
  · exact hm
  · exfalso
    have h1 : 10 ^ 19 ≤ 10 ^ m := Nat.pow_le_pow_right (by omega) (by omega)
    have h2 : 1 * 10 ^ m ≤ n * 10 ^ m := Nat.mul_le_mul_right _ (by omega)
    have h3 : (10 : Nat) ^ 19 = 10000000000000000000 := by decide
    omega
theorem inv_step {a0 : Int} {m : Nat} {kk : Int} {L : List Int} (h : Inv a0 m kk L) (h0 : kk ≠ 0) (x : Int) (hx : x = 48 + ((kk.natAbs % 10 : Nat) : Int)) (k' : Int) (hk : k' = kk.tdiv 10) :
    Inv a0 (m + 1) k' (L.set (19 - m) x) := by
  subst hx; subst hk
  have h18 := ten_pow m kk.natAbs (by omega) (h.pow h0)
  have hl := h.low
  have hh := h.high
  have hq : (kk.tdiv 10).natAbs = kk.natAbs / 10 := by
    rw [Int.natAbs_tdiv]; rfl
  have hb : -9223372036854775808 ≤ kk.tdiv 10 ∧ kk.tdiv 10 ≤ 9223372036854775807 := by omega
  refine ⟨by simp [h.len], by omega, fun hne => ?_, ?_, hb.1, hb.2⟩
  · rw [hq]
    have h1 : kk.natAbs / 10 * 10 ≤ kk.natAbs := Nat.div_mul_le_self _ _
    have h2 : kk.natAbs / 10 * 10 * 10 ^ m ≤ kk.natAbs * 10 ^ m := Nat.mul_le_mul_right _ h1
    rw [Nat.pow_succ]
    have h3 : kk.natAbs / 10 * (10 ^ m * 10) = kk.natAbs / 10 * 10 * 10 ^ m := by rw [Nat.mul_assoc, Nat.mul_comm (10 ^ m) 10]
    rw [h3]
    exact Nat.le_trans h2 (h.pow h0)
  · rw [hq, ← h.dig, pd_pos (n := kk.natAbs) (by omega)]
    have hd : L.drop (20 - m) = (L.set (19 - m) (48 + ((kk.natAbs % 10 : Nat) : Int))).drop (20 - m) := by
      rw [List.drop_set_of_lt (by omega)]
    have hs : (L.set (19 - m) (48 + ((kk.natAbs % 10 : Nat) : Int))).drop (20 - (m + 1)) = (48 + ((kk.natAbs % 10 : Nat) : Int)) :: (L.set (19 - m) (48 + ((kk.natAbs % 10 : Nat) : Int))).drop (20 - m) := by
      have hlt : 19 - m < (L.set (19 - m) (48 + ((kk.natAbs % 10 : Nat) : Int))).length := by rw [List.length_set, h.len]; omega
      have e : 20 - (m + 1) = 19 - m := by omega
      rw [e, List.drop_eq_getElem_cons hlt, List.getElem_set_self]
      congr 2
      omega
    rw [hs, ← hd, List.map_append, List.append_assoc]
    congr 1
    simp only [List.map_cons, List.map_nil, List.singleton_append]
    congr 1
    rw [UInt8.toNat_ofNat']
    have : kk.natAbs % 10 < 10 := Nat.mod_lt _ (by omega)
    omega
theorem inv_end {a0 : Int} {m : Nat} {L : List Int} (h : Inv a0 m 0 L) : L.drop (20 - m) = (pd a0.natAbs).map (fun c => (c.toNat : Int)) := by
  have := h.dig
  simpa [pd_zero] using this
theorem inv_minus {a0 : Int} {m : Nat} {L : List Int} (h : Inv a0 m 0 L) : (L.set (19 - m) 45).drop (19 - m) = (45 : Int) :: (pd a0.natAbs).map (fun c => (c.toNat : Int)) := by
  have hm := h.m19
  have hlt : 19 - m < (L.set (19 - m) 45).length := by rw [List.length_set, h.len]; omega
  rw [List.drop_eq_getElem_cons hlt, List.getElem_set_self, ← inv_end h]
  congr 1
  have e : 19 - m + 1 = 20 - m := by omega
  rw [e, List.drop_set_of_lt (by omega)]
theorem str_of (l : List UInt8) : strOfNums (l.map fun c => (c.toNat : Int)) = ⟨l.toArray⟩ := by
  unfold strOfNums
  congr 2
  rw [List.map_map]
  conv => rhs; rw [← List.map_id l]
  apply List.map_congr_left
  intro c _
  simp
end Go.Proofs.Ytkgjbdbhpohkiaa.Dig
end
-- from YtkgjbdbhpohkiaaHPrint
section
namespace Go.Proofs.Ytkgjbdbhpohkiaa.PLi
open Go.RowKit Go.Proofs.YtkgjbdbhpohkiaaW.PrintWords Go.Proofs.YtkgjbdbhpohkiaaW.PrintLast Go.Proofs.YtkgjbdbhpohkiaaW.PrintMore Go.Proofs.Ytkgjbdbhpohkiaa.Dig
set_option linter.unusedVariables false
set_option linter.unusedSimpArgs false
def digits_Print.f (a0 : Int) : Option ByteArray := if -9223372036854775808 ≤ a0 then (if a0 ≤ 9223372036854775807 then some ⟨(digs a0).toArray⟩ else none) else none
def u8s (L : List Int) : Array Value := (L.map (Value.int .u8)).toArray
theorem u8s_set (L : List Int) (i : Nat) (x : Int) : (u8s L).setIfInBounds i (.int .u8 x) = u8s (L.set i x) := by
  apply Array.toList_inj.1
  simp [u8s, List.map_set]
theorem u8s_get {L : List Int} {i : Nat} (h : i < L.length) : (u8s L)[i]? = some (.int .u8 (L[i])) := by
  simp [u8s, h]
theorem reads_tail {w : World} {g : Nat} {L : List Int} {t : TypeId} (h : w.heap[g]? = some (.cells (u8s L) t (0, 0))) (i : Nat) (hi : i ≤ L.length) (hl : L.length ≤ 9223372036854775807) : (Kd.int .u8).C w (some ⟨g, i, none⟩) (L.drop i).length (L.drop i) := by
  refine ⟨rfl, by rw [List.length_drop]; omega, fun _ => ⟨_, rfl, fun j p hj => ⟨[.int .u8 p], rfl, rfl, fun q u hu => ?_⟩⟩⟩
  have hq : q = 0 := by
    have := (List.getElem?_eq_some_iff.1 hu).1
    simpa using this
  subst hq
  have hsz : (Kd.int .u8).sz = 1 := rfl
  rw [hsz, Nat.mul_one, Nat.add_zero, add_at, blk_cell h]
  have hj2 := (List.getElem?_eq_some_iff.1 hj).1
  rw [List.length_drop] at hj2
  rw [u8s_get (by omega)]
  rw [List.getElem?_drop, List.getElem?_eq_getElem (by omega)] at hj
  simp at hu hj
  rw [← hu, hj]
theorem slice20 (g i : Nat) (hi : i ≤ 19) (w : World) : (Instr.sliceAt 80 (.pointer (some ⟨g, 0, none⟩)) (some (.int .i64 (i : Int))) none none).run Try.prog w = .ok (.slice (some ⟨g, i, none⟩) (20 - i) (20 - i)) w := by
  have hl : Try.prog.arrayLen 80 = 20 := by kernel_rfl
  have hs : (sizeOf (Try.prog.elem 80)).run Try.prog w = .ok 1 w := by kernel_rfl
  rw [run_sliceAt_array_l w 80 ⟨g, 0, none⟩ (by kernel_rfl) .i64 (i : Int) (by omega) (by rw [hl]; omega), hs, hl]
  simp only [Result.andThen, slicedAt, Int.toNat_natCast, Nat.mul_one, add_plain]
  rw [if_neg (by omega)]
theorem conv_tail {w : World} {g : Nat} {L : List Int} (h : w.heap[g]? = some (.cells (u8s L) 80 (0, 0))) (hL : L.length = 20) (i : Nat) (hi : i ≤ 20) (l : List UInt8) (hd : L.drop i = l.map (fun c => (c.toNat : Int))) :
    ∀ c, (convert 54 9 (.slice (some ⟨g, i, none⟩) (20 - i) c)).run Try.prog w = .ok (.string ⟨l.toArray⟩) w := by
  intro c
  have e : 20 - i = (L.drop i).length := by rw [List.length_drop, hL]
  rw [e, Kd.C_string (P := Try.prog) Try.underlying54 Try.underlying5 Try.underlying9 (reads_tail h i (by omega) (by omega)), hd, str_of]
def AtHead (w : World) (a0 : Int) (at_ k : Value) (wr : World) : Prop := ∃ (m : Nat) (kk : Int) (L : List Int), at_ = .int .i64 (20 - (m : Int)) ∧ k = .int .i64 kk ∧ Aside0 (Inv a0 m kk L) ∧ Aside0 (wr.heap[w.heap.size]? = some (.cells (u8s L) 80 (0, 0))) ∧ Aside0 (Below w.heap.size w wr)
set_option maxHeartbeats 1000000 in
set_option maxRecDepth 100000 in
theorem digits_Print.calls (a0 : Int) (r : ByteArray) (w : World) (h : digits_Print.f a0 = some r) :
    Calls Try.prog 26 #[.int .i64 a0] w fun e w' => e = .returned (.string r) ∧ Below w.heap.size w w' := by
  unfold digits_Print.f at h
  by_cases hlo : -9223372036854775808 ≤ a0
  case neg => rw [if_neg hlo] at h; cases h
  by_cases hhi : a0 ≤ 9223372036854775807
  case neg => rw [if_pos hlo, if_neg hhi] at h; cases h
  rw [if_pos hlo, if_pos hhi] at h
  obtain rfl := Option.some.inj h
  clear h
  by_cases hz : a0 = 0
  · subst hz
    go_enter Try.func26, Try.ntmps26
    go_wp2
    go_ret
    exact ⟨rfl, Below.refl _ _⟩
  · have h0 : (a0 == 0) = false := by simpa using hz
    have HI := Aside0.mk (inv_start hlo hhi)
    have HZ := Aside0.mk hz
    clear hz
    go_enter Try.func26, Try.ntmps26
    go_wp2
    go_loopw [4, 5] (fun at_ k wr => AtHead w a0 at_ k wr) (fun _ k _ => (intOf k).natAbs)
    case atStart => exact ⟨0, a0, _, by simp, rfl, HI, ⟨blk_new w _⟩, ⟨(Below.refl _ _).alloc (Nat.le_refl _) _⟩⟩
    case round =>
      obtain ⟨m, kk, L, rfl, rfl, HV, HB, HW⟩ := hrel
      clear HI
      by_cases hk : kk = 0
      · subst hk
        have hm19 : m ≤ 19 := HV.out.m19
        have hlen := HV.out.len
        have hend : L.drop (20 - m) = (pd a0.natAbs).map (fun c => (c.toNat : Int)) := inv_end HV.out
        have hm1 : 1 ≤ m := by
          rcases Nat.eq_zero_or_pos m with h | h
          · exfalso
            subst h
            rw [show 20 - 0 = L.length from by rw [hlen], List.drop_length] at hend
            exact pd_ne_nil (n := a0.natAbs) (by have := HZ.out; omega) (by simpa using hend.symm)
          · exact h
        have HE := Aside0.mk hend
        clear hend
        by_cases hneg : a0 < 0
        · have hd : decide (a0 < 0) = true := decide_eq_true hneg
          obtain ⟨v0, hc⟩ : ∃ v, wr.cell? ⟨w.heap.size, 19 - m, none⟩ = some v := ⟨_, (blk_cell HB.out _).trans (u8s_get (by omega))⟩
          have hf : wr.frozen? ⟨w.heap.size, 19 - m, none⟩ = false := blk_frozen HB.out _
          have hcv := conv_tail (w := wr.setCell ⟨w.heap.size, 19 - m, none⟩ (.int .u8 45)) (g := w.heap.size) (L := L.set (19 - m) 45) (by rw [← u8s_set]; exact blk_set HB.out (19 - m) (.int .u8 45)) (by rw [List.length_set]; exact hlen) (19 - m) (by omega) (45 :: pd a0.natAbs) (inv_minus HV.out)
          have hsl := slice20 w.heap.size (19 - m) (by omega)
          have hs1 : (20 - (m : Int)) - 1 = ((19 - m : Nat) : Int) := by omega
          clear hlen
          go_wp2
          go_ret
          have e : digs a0 = 45 :: pd a0.natAbs := by unfold digs; rw [if_neg HZ.out, if_pos (by omega)]
          rw [e]
          exact ⟨rfl, HW.out.setCell (Nat.le_refl _) _⟩
        · have hd : decide (a0 < 0) = false := decide_eq_false hneg
          have hcv := conv_tail HB.out hlen (20 - m) (by omega) (pd a0.natAbs) HE.out
          have hsl := slice20 w.heap.size (20 - m) (by omega)
          have hs1 : (20 - (m : Int)) = ((20 - m : Nat) : Int) := by omega
          clear hlen
          go_wp2
          go_ret
          have e : digs a0 = pd a0.natAbs := by unfold digs; rw [if_neg HZ.out, if_neg (by omega)]
          rw [e]
          exact ⟨rfl, HW.out⟩
      · have hk0 : (kk == 0) = false := by simpa using hk
        have hk1 : (kk != 0) = true := by simpa using hk
        have h18 := ten_pow m kk.natAbs (by omega) (HV.out.pow hk)
        have hlo2 := HV.out.low
        have hhi2 := HV.out.high
        have HL := Aside0.mk HV.out.len
        have hs1 : (20 - (m : Int)) - 1 = ((19 - m : Nat) : Int) := by omega
        obtain ⟨v0, hc⟩ : ∃ v, wr.cell? ⟨w.heap.size, 19 - m, none⟩ = some v := ⟨_, (blk_cell HB.out _).trans (u8s_get (by have := HL.out; omega))⟩
        have hf : wr.frozen? ⟨w.heap.size, 19 - m, none⟩ = false := blk_frozen HB.out _
        rcases Int.lt_or_gt_of_ne hk with hneg | hpos
        · go_wp2
          · have hq : kk.tmod 10 < 0 := by assumption
            have e1 : (kk.tmod 10).natAbs = kk.natAbs % 10 := by rw [Int.natAbs_tmod]; rfl
            have e2 : (kk.tdiv 10).natAbs = kk.natAbs / 10 := by rw [Int.natAbs_tdiv]; rfl
            refine ⟨⟨m + 1, kk.tdiv 10, L.set (19 - m) ((48 + wrap64 (-kk.tmod 10)) % 256), congrArg (Value.int .i64) (by omega), rfl, ⟨inv_step HV.out hk _ ?_ _ rfl⟩, ⟨by rw [← u8s_set]; exact blk_set HB.out (19 - m) _⟩, ⟨HW.out.setCell (Nat.le_refl _) _⟩⟩, by simp only [intOf]; omega⟩
            unfold wrap64; omega
          · have hq : 0 ≤ kk.tmod 10 := by assumption
            have e1 : (kk.tmod 10).natAbs = kk.natAbs % 10 := by rw [Int.natAbs_tmod]; rfl
            have e2 : (kk.tdiv 10).natAbs = kk.natAbs / 10 := by rw [Int.natAbs_tdiv]; rfl
            refine ⟨⟨m + 1, kk.tdiv 10, L.set (19 - m) ((48 + kk.tmod 10) % 256), congrArg (Value.int .i64) (by omega), rfl, ⟨inv_step HV.out hk _ ?_ _ rfl⟩, ⟨by rw [← u8s_set]; exact blk_set HB.out (19 - m) _⟩, ⟨HW.out.setCell (Nat.le_refl _) _⟩⟩, by simp only [intOf]; omega⟩
            omega
        · have hd : decide (kk % 10 < 0) = false := decide_eq_false (by omega)
          go_wp2
          refine ⟨⟨m + 1, kk / 10, L.set (19 - m) (48 + kk % 10), congrArg (Value.int .i64) (by omega), rfl, ⟨inv_step HV.out hk _ ?_ _ ?_⟩, ⟨by rw [← u8s_set]; exact blk_set HB.out (19 - m) _⟩, ⟨HW.out.setCell (Nat.le_refl _) _⟩⟩, by simp only [intOf]; omega⟩
          · have : kk = (kk.natAbs : Int) := by omega
            omega
          · rw [Int.tdiv_eq_ediv_of_nonneg (by omega)]
end Go.Proofs.Ytkgjbdbhpohkiaa.PLi
end
-- from YtkgjbdbhpohkiaaZip
section
namespace Go.Proofs.Ytkgjbdbhpohkiaa.Zip
open Go.RowKit Go.Proofs.YtkgjbdbhpohkiaaW.PrintWords Go.Proofs.YtkgjbdbhpohkiaaW.PrintLast Go.Proofs.YtkgjbdbhpohkiaaW.PrintMore
set_option linter.unusedVariables false
theorem zR {P Q : Prop} (h : P) (q : P → Q := by intro h_; (with_reducible repeat (first | apply Kd.R_alloc | apply Kd.R_drewN | apply Kd.R_drew)); exact h_) : Q := q h
theorem zK {P Q : Prop} (h : P) (q : P → Q := by intro h_; (with_reducible repeat (first | refine blk_drewN ?_ _ | refine blk_drew ?_ | refine blk_alloc ?_ _)); exact h_) : Q := q h
theorem zB {P Q : Prop} (h : P) (q : P → Q := by intro h_; repeat (first | (with_reducible first | exact h_ | apply below_alloc | apply pw_below_drewN | apply below_drew1) | exact h_)) : Q := q h
theorem zC {P Q G : Prop} (h : P) (g : G) (q : P → G → Q := by intro h_ g_; repeat (first | (with_reducible first | exact h_ | apply below_alloc | apply pw_below_drewN | apply below_drew1 | refine below_set ?_ g_) | exact h_)) : Q := q h g
theorem zD {P Q G G' : Prop} (h : P) (g : G) (g' : G') (q : P → G → G' → Q := by intro h_ g_ g2_; repeat (first | (with_reducible first | exact h_ | apply below_alloc | apply pw_below_drewN | apply below_drew1 | refine below_set ?_ g_ | refine below_set ?_ g2_) | exact h_)) : Q := q h g g'
theorem zE {P Q G G' G'' : Prop} (h : P) (g : G) (g' : G') (g'' : G'') (q : P → G → G' → G'' → Q := by intro h_ g_ g2_ g3_; repeat (first | (with_reducible first | exact h_ | apply below_alloc | apply pw_below_drewN | apply below_drew1 | refine below_set ?_ g_ | refine below_set ?_ g2_ | refine below_set ?_ g3_) | exact h_)) : Q := q h g g' g''
theorem zA {P : Prop} (q : P := by (try simp only [List.map_toArray, List.map_cons, List.map_nil]); first | done | rfl | (simp only [List.length_drop, List.length_take]; rfl)) : P := q
theorem zS {P : Prop} (q : P := by first | (with_reducible assumption) | assumption) : P := q
theorem zF {P : Prop} (q : P := by first | rfl | (simp [errW_none, errW_some] <;> rfl) | (simp [*, errW_none, errW_some] <;> rfl)) : P := q
theorem zQ {P : Prop} (q : P := by repeat (first | exact Drawn0.refl _ | apply Drawn0.step)) : P := q
theorem zW {P : Prop} (q : P := by first | exact ⟨rfl, _, World.drewN_drewN _ _ _⟩ | exact ⟨rfl, _, Eq.trans (World.drewN_drewN _ _ _) (congrArg (World.drewN _) (Nat.add_assoc _ _ _))⟩) : P := q
theorem eqA2 {P : Program} {d : Nat} {t e : TypeId} (hu : P.underlying t = some (.array 2 e)) (he : P.underlying e = some (.int .i64)) (h0 : ∀ u0 u1 W, (part e #[u0, u1] (0 * P.cellsOf e)).run P W = .ok u0 W) (h1 : ∀ u0 u1 W, (part e #[u0, u1] (1 * P.cellsOf e)).run P W = .ok u1 W) (hi : (P.info? e).isSome = true) (u v x y : Int) (W : World) :
    (Op.equalIn (d + 1 + 1) t (.agg #[.int .i64 u, .int .i64 v]) (.agg #[.int .i64 x, .int .i64 y])).run P W = .ok (u == x && (v == y)) W := by
  have eqi : ∀ (a b : Int) (W : World), (Op.equalIn (d + 1) e (.int .i64 a) (.int .i64 b)).run P W = .ok (a == b) W := by
    intro a b W
    simp [Op.equalIn, run_underlying he]
  obtain ⟨i, hi⟩ := Option.isSome_iff_exists.mp hi
  rw [run_equalIn_array W (d + 1) _ _ hu hi]
  show (Op.eqItems (d + 1) e (P.cellsOf e) _ _ [0, 1]).run P W = _
  rw [Nat.one_mul] at h1
  simp only [Op.eqItems, Sem.run_bind, h0, eqi, Result.andThen_ok]
  cases h3 : (u == x) <;> cases h4 : (v == y) <;> simp [h1, eqi, h4]
end Go.Proofs.Ytkgjbdbhpohkiaa.Zip
end
-- from YtkgjbdbhpohkiaaPLix7
section
namespace Go.Proofs.Ytkgjbdbhpohkiaa.PLi
open Go.RowKit Go.Proofs.YtkgjbdbhpohkiaaW.PrintWords Go.Proofs.YtkgjbdbhpohkiaaW.PrintLast Go.Proofs.YtkgjbdbhpohkiaaW.PrintMore Go.Proofs.Ytkgjbdbhpohkiaa.Zip
attribute [local go_sem] max2_int min2_int max_two min_two max_three min_three max_four min_four   -- for this text's walks alone
set_option linter.unusedVariables false
set_option linter.unusedSimpArgs false
def digits_Small.f (a0 : Int) : Option (ByteArray) := (digits_Print.f a0).bind fun t130 => (some t130)
set_option maxHeartbeats 8000000 in
set_option maxRecDepth 100000 in
theorem digits_Small.calls (a0 : Int) (r : ByteArray) (w : World) (h : digits_Small.f a0 = some r) :
  Calls Try.prog 25 #[.int .i64 a0] w fun e w' => e = .returned (.string r) ∧ Below w.heap.size w w' := by
 have HB := Aside0.mk (Below.refl w.heap.size w)
 have H : ((digits_Print.f a0).bind fun t130 => (some t130)) = some r := h
 clear h
 replace H := Option.bind_eq_some_iff.mp H
 obtain ⟨t130, A20, H⟩ := H
 replace H : (some t130) = some r := H
 have A2 := Aside0.mk A20
 clear A20
 obtain rfl := Option.some.inj H
 go_enter Try.func25, Try.ntmps25
 go_wp2_with (first | ((with_reducible refine gate_callee (f := 26) rfl ?_); refine goesL_ (some 4) rfl rfl Try.func26 (by kernel_rfl) rfl #[.int .i64 a0] rfl zA ?_; (with_reducible refine (digits_Print.calls a0 t130 _ A2.out).mono ?_); rintro e w3 ⟨rfl, hb⟩; refine ⟨_, rfl, ?_⟩; have n0_ := Aside0.mk (below_step (zB HB.out) hb); clear HB; have HB := n0_; clear n0_; (try clear hb); (try clear hb2); (try clear hk); (try clear hi)))
 go_ret
 exact ⟨zF, zB HB.out⟩
def listing_slot.f (a0 : Int) : Option (ByteArray) := if a0 < 0 then (some (⟨#[95]⟩ : ByteArray)) else ((digits_Small.f a0).bind fun t131 => (if 1 + t131.size ≤ 9223372036854775807 then (some ((⟨#[115]⟩ : ByteArray) ++ t131)) else (none)))
set_option maxHeartbeats 8000000 in
set_option maxRecDepth 100000 in
theorem listing_slot.calls (a0 : Int) (r : ByteArray) (w : World) (h : listing_slot.f a0 = some r) :
  Calls Try.prog 24 #[.int .i64 a0] w fun e w' => e = .returned (.string r) ∧ Below w.heap.size w w' := by
 have HB := Aside0.mk (Below.refl w.heap.size w)
 have H : (if a0 < 0 then (some (⟨#[95]⟩ : ByteArray)) else ((digits_Small.f a0).bind fun t131 => (if 1 + t131.size ≤ 9223372036854775807 then (some ((⟨#[115]⟩ : ByteArray) ++ t131)) else (none)))) = some r := h
 clear h
 by_cases c2 : a0 < 0
 ·rw [if_pos c2] at H
  have c2b0 : decide (a0 < 0) = true := decide_eq_true c2
  clear c2
  obtain rfl := Option.some.inj H
  go_enter Try.func24, Try.ntmps24
  go_wp2
  go_ret
  exact ⟨zF, zB HB.out⟩
 ·rw [if_neg c2] at H
  have c2b0 : decide (a0 < 0) = false := decide_eq_false c2
  clear c2
  replace H := Option.bind_eq_some_iff.mp H
  obtain ⟨t131, A30, H⟩ := H
  replace H : (if 1 + t131.size ≤ 9223372036854775807 then (some ((⟨#[115]⟩ : ByteArray) ++ t131)) else (none)) = some r := H
  have A3 := Aside0.mk A30
  clear A30
  by_cases c4 : 1 + t131.size ≤ 9223372036854775807
  ·rw [if_pos c4] at H
   have c4b0 := eq_true c4
   have c4b1 : decide (1 + t131.size ≤ 9223372036854775807) = true := decide_eq_true c4
   try have c4b2 : (9223372036854775807 < 1 + t131.size) = False := eq_false (Nat.not_lt.2 c4)
   obtain rfl := Option.some.inj H
   go_enter Try.func24, Try.ntmps24
   go_wp2_with (first | ((with_reducible refine gate_callee (f := 25) rfl ?_); refine goesL_ (some 6) rfl rfl Try.func25 (by kernel_rfl) rfl #[.int .i64 a0] rfl zA ?_; (with_reducible refine (digits_Small.calls a0 t131 _ A3.out).mono ?_); rintro e w5 ⟨rfl, hb⟩; refine ⟨_, rfl, ?_⟩; have n0_ := Aside0.mk (below_step (zB HB.out) hb); clear HB; have HB := n0_; clear n0_; (try clear hb); (try clear hb2); (try clear hk); (try clear hi)))
   go_ret
   exact ⟨zF, zB HB.out⟩
  ·rw [if_neg c4] at H
   exact absurd H (by simp)
end Go.Proofs.Ytkgjbdbhpohkiaa.PLi
end
-- from YtkgjbdbhpohkiaaStr
section
namespace Go.Proofs.Ytkgjbdbhpohkiaa.Str
open Go.RowKit Go.Proofs.YtkgjbdbhpohkiaaW.PrintWords Go.Proofs.YtkgjbdbhpohkiaaW.PrintLast Go.Proofs.YtkgjbdbhpohkiaaW.PrintMore
abbrev mk (l : List UInt8) : ByteArray := ⟨l.toArray⟩
theorem mk_data (s : ByteArray) : s = mk s.data.toList := by cases s; rfl
theorem mk_size (l : List UInt8) : (mk l).size = l.length := by show l.toArray.size = _; simp
theorem size_data (s : ByteArray) : s.size = s.data.toList.length := rfl
theorem toList_loop (s : ByteArray) : ∀ (d i : Nat) (r : List UInt8), s.size - i = d → ByteArray.toList.loop s i r = r.reverse ++ s.data.toList.drop i := by
  intro d
  induction d with
  | zero => intro i r h; unfold ByteArray.toList.loop; rw [if_neg (by omega)]; simp; omega
  | succ d ih =>
    intro i r h
    unfold ByteArray.toList.loop
    rw [if_pos (by omega), ih (i + 1) _ (by omega)]
    have hlt : i < s.data.toList.length := by have : s.data.size = s.size := ByteArray.size_data; simp; omega
    rw [List.drop_eq_getElem_cons hlt]
    have h2 : i < s.data.size := by simpa using hlt
    simp [ByteArray.get!, getElem!_pos s.data i h2]
theorem toList_eq (s : ByteArray) : s.toList = s.data.toList := by unfold ByteArray.toList; rw [toList_loop s _ 0 [] rfl]; simp
theorem mk_toList (l : List UInt8) : (mk l).toList = l := by rw [toList_eq]
theorem mk_append (a b : List UInt8) : mk a ++ mk b = mk (a ++ b) := by
  apply ByteArray.ext
  simp
theorem mk_extract (l : List UInt8) (a b : Nat) : (mk l).extract a b = mk ((l.take b).drop a) := by
  apply ByteArray.ext
  apply Array.toList_inj.1
  simp [List.drop_take]
theorem mk_from (l : List UInt8) (a : Nat) : (mk l).extract a (mk l).size = mk (l.drop a) := by
  rw [mk_extract, mk_size, List.take_length]
theorem bt_mk (l : List UInt8) (i : Nat) (h : i < l.length) : bt (mk l) (i : Int) = (l[i].toNat : Int) := by
  unfold bt
  rw [dif_pos (by rw [mk_size]; simpa using h)]
  simp [ByteArray.getElem_eq_getElem_data]
theorem bt_pre (pre rest : List UInt8) (c : UInt8) : bt (mk (pre ++ c :: rest)) (pre.length : Int) = (c.toNat : Int) := by
  rw [bt_mk _ _ (by simp)]
  simp
theorem bt_head (c : UInt8) (l : List UInt8) : bt (mk (c :: l)) 0 = (c.toNat : Int) := bt_pre [] l c
theorem nums_one (n : Int) (c : UInt8) (h : n = (c.toNat : Int)) : strOfNums [n] = mk [c] := by
  subst h
  simp [strOfNums]
theorem inj {a b : ByteArray} (h : a.toList = b.toList) : a = b := by
  rw [toList_eq, toList_eq] at h
  cases a; cases b
  congr
  exact Array.toList_inj.1 h
theorem w64 {x : Int} (h0 : -9223372036854775808 ≤ x) (h1 : x ≤ 9223372036854775807) : wrap64 x = x := by unfold wrap64; omega
theorem ev_if {α : Type} {c : Prop} [Decidable c] {g f : Nat → Option α} {r : α} (h : c → Ev g r) (k : ¬ c → Ev f r) : Ev (fun n => if c then g n else f n) r := by
  by_cases hc : c
  · simp only [if_pos hc]; exact h hc
  · simp only [if_neg hc]; exact k hc
theorem ev_pos {α : Type} {c : Prop} [Decidable c] {g f : Nat → Option α} {r : α} (hc : c) (h : Ev g r) : Ev (fun n => if c then g n else f n) r := by simp only [if_pos hc]; exact h
theorem ev_neg {α : Type} {c : Prop} [Decidable c] {g f : Nat → Option α} {r : α} (hc : ¬ c) (h : Ev f r) : Ev (fun n => if c then g n else f n) r := by simp only [if_neg hc]; exact h
theorem ev_some {α β : Type} {o : Option α} {f : Nat → α → Option β} {a : α} {r : β} (h : o = some a) (k : Ev (fun n => f n a) r) : Ev (fun n => o.bind (f n)) r := by subst h; exact k
end Go.Proofs.Ytkgjbdbhpohkiaa.Str
end
-- from YtkgjbdbhpohkiaaHStrs
section
namespace Go.Proofs.Ytkgjbdbhpohkiaa.PLi
open Go.Shelf Go.RowKit Go.Proofs.YtkgjbdbhpohkiaaW.PrintWords Go.Proofs.Ytkgjbdbhpohkiaa.Str
set_option linter.unusedVariables false
def lays156_ren : Go.Shelf.Ren := ⟨fun | 156 => 28 | 165 => 51 | 166 => 34 | 169 => 35 | 240 => 52 | 241 => 77 | 276 => 78 | 277 => 95 | n => n, fun | 31 => 49 | 9 => 9 | 3 => 3 | 4 => 4 | 0 => 0 | 20 => 20 | 72 => 56 | 76 => 59 | 70 => 53 | 37 => 54 | 75 => 58 | 127 => 82 | 164 => 100 | 5 => 5 | 80 => 61 | n => n, fun | n => n⟩
theorem lays156 : Go.Proofs.Lays.n156 Try.prog lays156_ren := {
  mixed := by kernel_rfl
  f156 := Try.func28.trans (congrArg some (by kernel_rfl))
  f165 := Try.func51.trans (congrArg some (by kernel_rfl))
  f166 := Try.func34.trans (congrArg some (by kernel_rfl))
  f169 := Try.func35.trans (congrArg some (by kernel_rfl))
  f240 := Try.func52.trans (congrArg some (by kernel_rfl))
  f241 := Try.func77.trans (congrArg some (by kernel_rfl))
  f276 := Try.func78.trans (congrArg some (by kernel_rfl))
  f277 := Try.func95.trans (congrArg some (by kernel_rfl))
  t0 := Try.underlying0
  a0 := Try.isAgg0
  z0 := Try.sizeOf0
  v0 := Try.zeroValue0
  t3 := Try.underlying3
  a3 := Try.isAgg3
  z3 := Try.sizeOf3
  v3 := Try.zeroValue3
  t4 := Try.underlying4
  a4 := Try.isAgg4
  z4 := Try.sizeOf4
  v4 := Try.zeroValue4
  t9 := Try.underlying9
  a9 := Try.isAgg9
  z9 := Try.sizeOf9
  v9 := Try.zeroValue9
  t20 := Try.underlying20
  a20 := Try.isAgg20
  z20 := Try.sizeOf20
  v20 := Try.zeroValue20
  t31 := Try.underlying49
  a31 := Try.isAgg49
  z31 := Try.sizeOf49
  v31 := Try.zeroValue49
  t37 := Try.underlying54
  a37 := Try.isAgg54
  z37 := Try.sizeOf54
  v37 := Try.zeroValue54
  t70 := Try.underlying53
  a70 := Try.isAgg53
  z70 := Try.sizeOf53
  v70 := Try.zeroValue53
  t72 := Try.underlying56
  a72 := Try.isAgg56
  z72 := Try.sizeOf56
  v72 := Try.zeroValue56
  t75 := Try.underlying58
  a75 := Try.isAgg58
  z75 := Try.sizeOf58
  v75 := Try.zeroValue58
  t76 := Try.underlying59
  a76 := Try.isAgg59
  z76 := Try.sizeOf59
  v76 := Try.zeroValue59
  t127 := Try.underlying82
  a127 := Try.isAgg82
  z127 := Try.sizeOf82
  v127 := Try.zeroValue82
  t164 := Try.underlying100
  a164 := Try.isAgg100
  z164 := Try.sizeOf100
  v164 := Try.zeroValue100 }
theorem builder_Extra : Builder.Extra Try.prog lays156_ren := {
  sizeBuilder := by kernel_rfl
  liesBuilder := by kernel_rfl
  t5 := Try.underlying5
  a5 := Try.isAgg5
  z5 := Try.sizeOf5
  v5 := Try.zeroValue5
  infoByte := by kernel_rfl
  cellsByte := by kernel_rfl
  sizeByte := by kernel_rfl
  neB5 := by decide }
def joinB (l : List ByteArray) (sep : ByteArray) : ByteArray := ⟨(Lib.join (l.map (·.data.toList)) sep.data.toList).toArray⟩
def strings_Join.f (l : List ByteArray) (sep : ByteArray) : Option ByteArray := if l.length ≤ 140737488355328 ∧ (joinB l sep).size ≤ 140737488355328 then some (joinB l sep) else none
theorem ad_spot {w : World} {ad : Addr} {u : Value} (h : w.cell? (ad.add 0) = some u) : ad = ⟨ad.block, ad.off, none⟩ ∧ ad.block < w.heap.size := by
  have h0 : ad.add 0 = ad := by unfold Addr.add; rfl
  rw [h0] at h
  have hb : ad.block < w.heap.size := World.block_lt_of_cell? w ad h
  refine ⟨?_, hb⟩
  obtain ⟨b, o, s⟩ := ad
  cases s with
  | none => rfl
  | some s =>
    exfalso
    unfold World.cell? at h
    split at h
    · simp at h
    · cases h
theorem strings_Join.calls (A0 : Option Addr) (c0 : Nat) (l : List ByteArray) (sep : ByteArray) (r : ByteArray) (w : World) (hr0 : Kd.C Kd.string w A0 l.length l) (hc0 : l.length ≤ c0) (h : strings_Join.f l sep = some r) :
    Calls Try.prog 28 #[.slice A0 l.length c0, .string sep] w fun e w' => e = .returned (.string r) ∧ Below w.heap.size w w' := by
  unfold strings_Join.f at h
  by_cases hg : l.length ≤ 140737488355328 ∧ (joinB l sep).size ≤ 140737488355328
  rotate_left
  · rw [if_neg hg] at h
    cases h
  rw [if_pos hg] at h
  obtain rfl := Option.some.inj h
  match l, hr0, hc0, hg with
  | [], _, _, _ => exact (Any.strings_Join_none lays156 builder_Extra A0 c0 sep w).mono fun e w' ⟨he, hw⟩ => ⟨he, hw ▸ Below.refl _ _⟩
  | x :: l, hr0, hc0, hg =>
    have hcell : ∀ j : Nat, j < (x :: l).length → ∃ ad, A0 = some ad ∧ w.cell? (ad.add j) = some (.string ((x :: l).getD j ByteArray.empty)) := fun j hj => by
      obtain ⟨ad, e, hc⟩ := Kd.at_string hr0 j (by omega) (by omega)
      rw [Int.toNat_natCast] at hc
      exact ⟨ad, e, by rw [hc]; unfold rdOf; rw [Int.toNat_natCast]⟩
    obtain ⟨ad, rfl, h0⟩ := hcell 0 (by simp)
    obtain ⟨he, hb⟩ := ad_spot h0
    obtain ⟨bk, o, sp⟩ := ad
    obtain rfl : sp = none := congrArg Addr.spot he
    exact Any.strings_Join lays156 builder_Extra bk o c0 (x :: l) sep w (fun j y hj => by
      have hj2 := (List.getElem?_eq_some_iff.1 hj).1
      obtain ⟨ad, e, hc⟩ := hcell j hj2
      cases e
      rw [add_at] at hc
      rw [hc, List.getD_eq_getElem?_getD, hj]
      rfl) hb hg.1 hc0 (by have := hg.2; unfold joinB at this; rw [mk_size] at this; exact this)
theorem builder_Write (B b : Nat) (bs : List Value) (s : ByteArray) (w : World) (h : Lib.IsBuilderF 56 5 B b bs w) (hlen : bs.length + s.size ≤ 140737488355328) (hBw : B ≤ w.heap.size) :
    Calls Try.prog 34 #[.pointer (some ⟨b, 0, none⟩), .string s] w fun e w' => e = .returned (.tuple #[.int .i64 s.size, .nilIface]) ∧ Lib.IsBuilderF 56 5 B b (bs ++ Lib.strCells s) w' ∧ Below B w w' ∧ Lib.OthersKept 5 (some b) w w' :=
  (Any.Builder_WriteString_k { lays156 with } builder_Extra B b bs s w h hlen hBw).mono fun e w' ⟨h1, h2, h3⟩ => ⟨h1, .inr h2, h3⟩
theorem builder_String (B b : Nat) (l : List UInt8) (w : World) (h : Lib.IsBuilderF 56 5 B b (Lib.byteCells l) w) (hBw : B ≤ w.heap.size) :
    Calls Try.prog 35 #[.pointer (some ⟨b, 0, none⟩)] w fun e w' => e = .returned (.string ⟨l.toArray⟩) ∧ Below B w w' :=
  (Any.Builder_String_any_k { lays156 with } builder_Extra B b l w h hBw).mono fun e w' ⟨h1, h2, h3, h4⟩ => ⟨h1, h3⟩
end Go.Proofs.Ytkgjbdbhpohkiaa.PLi
end
-- from YtkgjbdbhpohkiaaPLix8
section
namespace Go.Proofs.Ytkgjbdbhpohkiaa.PLi
open Go.RowKit Go.Proofs.YtkgjbdbhpohkiaaW.PrintWords Go.Proofs.YtkgjbdbhpohkiaaW.PrintLast Go.Proofs.YtkgjbdbhpohkiaaW.PrintMore Go.Proofs.Ytkgjbdbhpohkiaa.Zip
attribute [local go_sem] max2_int min2_int max_two min_two max_three min_three max_four min_four   -- for this text's walks alone
set_option linter.unusedVariables false
set_option linter.unusedSimpArgs false
def listing_list.l0 : Nat → List ByteArray → List Int → Int → Int → Option (ByteArray)
 | 0, _, _, _, _ => none
 | k + 1, x3, x6, x7, x8 => if x8 < x7 then (if 0 ≤ x8 then (if x8 < (x6.length : Int) then ((listing_slot.f (rd x6 x8)).bind fun t133 => (if x3.length < 8796093022208 then (listing_list.l0 k (x3 ++ [t133]) x6 x7 (wrap64 (x8 + 1))) else (none))) else (none)) else (none)) else ((strings_Join.f x3 (⟨#[32]⟩ : ByteArray)).bind fun t137 => (if 1 + t137.size ≤ 9223372036854775807 then (if ((⟨#[40]⟩ : ByteArray) ++ t137).size + 1 ≤ 9223372036854775807 then (some (((⟨#[40]⟩ : ByteArray) ++ t137) ++ (⟨#[41]⟩ : ByteArray))) else (none)) else (none)))
def listing_list.f (k : Nat) (l0 : List Int) : Option (ByteArray) := listing_list.l0 k ([] : List ByteArray) l0 (l0.length : Int) 0
theorem listing_list.mono_l : ∀ k, (∀ y0 y1 y2 y3, LeO (listing_list.l0 k y0 y1 y2 y3) (listing_list.l0 (k + 1) y0 y1 y2 y3))
 | 0 => fun _ _ _ _ r h => by simp [listing_list.l0] at h
 | k + 1 => by
  have ih0 := listing_list.mono_l k
  ·intro y0 y1 y2 y3
   unfold listing_list.l0
   repeat' first
   | (with_reducible exact ih0 _ _ _ _)
   | (with_reducible exact LeO.refl _)
   | (with_reducible exact LeO.none _)
   | (with_reducible refine LeO.ite ?_ ?_)
   | (with_reducible refine LeO.bind ?_ (fun _ => ?_))
   | exact ih0 _ _ _ _
   | exact LeO.none _
   | refine LeO.ite ?_ ?_
   | refine LeO.bind ?_ (fun _ => ?_)
theorem listing_list.mono : ∀ a0 k, LeO (listing_list.f k a0) (listing_list.f (k + 1) a0) := by
 intro a0 k
 have ih0 := listing_list.mono_l k
 unfold listing_list.f
 repeat' first
   | (with_reducible exact ih0 _ _ _ _)
   | (with_reducible exact LeO.refl _)
   | (with_reducible exact LeO.none _)
   | (with_reducible refine LeO.ite ?_ ?_)
   | (with_reducible refine LeO.bind ?_ (fun _ => ?_))
   | exact ih0 _ _ _ _
   | exact LeO.none _
   | refine LeO.ite ?_ ?_
   | refine LeO.bind ?_ (fun _ => ?_)
set_option maxHeartbeats 8000000 in
set_option maxRecDepth 100000 in
theorem listing_list.calls (k : Nat) (A0 : Option Addr) (c0 : Nat) (l0 : List Int) (r : ByteArray) (w : World) (hr0 : Kd.C (Kd.int .i64) w A0 l0.length l0) (hc0 : l0.length ≤ c0) (h : listing_list.f k l0 = some r) :
  Calls Try.prog 27 #[.slice A0 l0.length c0] w fun e w' => e = .returned (.string r) ∧ Below w.heap.size w w' := by
 have HR0 := Aside0.mk hr0
 have HC0 := Aside0.mk hc0
 clear hr0 hc0
 have HB := Aside0.mk (Below.refl w.heap.size w)
 have H : (listing_list.l0 k ([] : List ByteArray) l0 (l0.length : Int) 0) = some r := h
 clear h
 have H' := Aside0.mk H
 clear H
 go_enter Try.func27, Try.ntmps27
 go_wp2
 go_loopg [3, 8] k (fun kq v3 v8 w' => ∃ (x3_1 : List ByteArray) (x8_1 : Int), v8 = .int .i64 x8_1 ∧ Aside0 (listing_list.l0 kq x3_1 l0 (l0.length : Int) x8_1 = some r) ∧ Aside0 (kq ≤ k) ∧ Aside0 (Kd.R Kd.string 9 w' w.heap.size (fun _ => True) v3 x3_1) ∧ Aside0 (Below w.heap.size w w'))
 case atStart => exact ⟨(([] : List ByteArray)), (0), (by first | rfl | (simp; done) | (simp [*]; done)), H', ⟨Nat.le_refl _⟩, ⟨by first | exact Kd.R_nil _ _ _ _ _ | exact Kd.N_nil _ _ _ _ _ | exact Kd.V_nil _ _ _ _ _ | exact Kd.Q_nil _ _ _ _ _ | exact Kd.S_nil _ _ _ _ _⟩, ⟨zB HB.out⟩⟩
 case round =>
  clear H'
  obtain ⟨x3_1, x8_1, rfl, HA, HK1, HO_3, HB⟩ := hrel
  cases gk with
  | zero => exact absurd HA.out (by simp [listing_list.l0])
  | succ k1 =>
   have H := HA.out
   clear HA
   simp only [listing_list.l0] at H
   by_cases c2 : x8_1 < (l0.length : Int)
   ·rw [if_pos c2] at H
    have c2b0 : decide (x8_1 < (l0.length : Int)) = true := decide_eq_true c2
    clear c2
    by_cases c3 : 0 ≤ x8_1
    ·rw [if_pos c3] at H
     have c3b0 : decide (0 ≤ x8_1) = true := decide_eq_true c3
     clear c3
     by_cases c4 : x8_1 < (l0.length : Int)
     ·rw [if_pos c4] at H
      have c4b0 : decide (x8_1 < (l0.length : Int)) = true := decide_eq_true c4
      clear c4
      replace H := Option.bind_eq_some_iff.mp H
      obtain ⟨t133, A50, H⟩ := H
      replace H : (if x3_1.length < 8796093022208 then (listing_list.l0 k1 (x3_1 ++ [t133]) l0 (l0.length : Int) (wrap64 (x8_1 + 1))) else (none)) = some r := H
      have A5 := Aside0.mk A50
      clear A50
      by_cases c6 : x3_1.length < 8796093022208
      ·rw [if_pos c6] at H
       have LMc6 := Aside0.mk c6
       clear c6
       obtain ⟨y134, hy134⟩ : ∃ y_ : List ByteArray, y_ = (x3_1 ++ [t133]) := ⟨_, rfl⟩
       replace H : (listing_list.l0 k1 y134 l0 (l0.length : Int) (wrap64 (x8_1 + 1))) = some r := by first | (rw [hy134]; with_reducible exact H) | (have H2_ := (Option.bind_some _ _).symm.trans H; rw [hy134]; with_reducible exact H2_) | (have H2_ := (Option.bind_some _ _).symm.trans H; with_reducible exact H2_) | with_reducible exact H | (rw [hy134]; exact H) | exact H
       have Ny134 := Aside0.mk hy134
       clear hy134
       have H' := Aside0.mk H
       clear H
       have p132 : 0 ≤ (x8_1 : Int) := of_decide_eq_true zS
       have q132 : x8_1 < (l0.length : Int) := of_decide_eq_true zS
       obtain ⟨ad132, e132, hx132_0⟩ := Kd.at_int HR0.out x8_1 p132 q132
       cases e132
       replace hx132_0 := (HB.out.cell (World.block_lt_of_cell? w _ hx132_0)).trans hx132_0
       replace p132 := eq_true p132
       replace q132 := eq_true q132
       go_wp2_with (first | ((with_reducible refine gate_callee (f := 24) rfl ?_); refine goesL_ (some 14) rfl rfl Try.func24 (by kernel_rfl) rfl #[.int .i64 (rd l0 x8_1)] rfl zA ?_; (with_reducible refine (listing_slot.calls (rd l0 x8_1) t133 _ A5.out).mono ?_); rintro e w7 ⟨rfl, hb⟩; refine ⟨_, rfl, ?_⟩; have n0_ := Aside0.mk (Kd.R_below (zR HO_3.out) hb); have n1_ := Aside0.mk (below_step (zB HB.out) hb); clear HO_3; clear HB; have HO_3 := n0_; have HB := n1_; clear n0_ n1_; (try clear hb); (try clear hb2); (try clear hk); (try clear hi)) | ((with_reducible refine gate_builtin (b := .append) (xs := #[.tmp 12, .tmp 15]) rfl ?_); at_builtin; refine Kd.R_append Kd.string (w0 := w) w.heap.size rfl (.tmp 12) (.tmp 15) 49 9 (.string ⟨#[]⟩) 16 rfl Try.underlying49 info9 rfl (by decide) (by omega) u3 x3_1 t133 [.string t133] (fun _ => True) (fun _ => False) rfl rfl ?aP (fun _ hk => hk.elim) ?aF ?aO ?aB ?aS ?aL ?_; (case aP => exact rfl); (case aB => exact (zB HB.out)); (case aF => exact (fun _ _ => trivial)); (case aO => exact (zR HO_3.out)); (case aS => exact (below_size (zB HB.out))); (case aL => have := LMc6.out; omega); intro v135 w8 ho hb hg hat; rw [← Ny134.out] at ho; have n0_ := Aside0.mk (hb); have n1_ := Aside0.mk (ho); clear HB; clear HO_3; have HB := n0_; have HO136 := n1_; clear n0_ n1_; clear ho hb hg hat))
       go_roundg k1
       case measure => have := HK1.out; omega
       case rel => exact ⟨(y134), (wrap64 (x8_1 + 1)), (by first | rfl | (simp; done) | (simp [*]; done)), H', ⟨by have := HK1.out; omega⟩, ⟨zR HO136.out⟩, ⟨zB HB.out⟩⟩
      ·rw [if_neg c6] at H
       exact absurd H (by simp)
     ·rw [if_neg c4] at H
      exact absurd H (by simp)
    ·rw [if_neg c3] at H
     exact absurd H (by simp)
   ·rw [if_neg c2] at H
    have c2b0 : decide (x8_1 < (l0.length : Int)) = false := decide_eq_false c2
    clear c2
    replace H := Option.bind_eq_some_iff.mp H
    obtain ⟨t137, A90, H⟩ := H
    replace H : (if 1 + t137.size ≤ 9223372036854775807 then (if ((⟨#[40]⟩ : ByteArray) ++ t137).size + 1 ≤ 9223372036854775807 then (some (((⟨#[40]⟩ : ByteArray) ++ t137) ++ (⟨#[41]⟩ : ByteArray))) else (none)) else (none)) = some r := H
    have A9 := Aside0.mk A90
    clear A90
    by_cases c10 : 1 + t137.size ≤ 9223372036854775807
    ·rw [if_pos c10] at H
     have c10b0 := eq_true c10
     have c10b1 : decide (1 + t137.size ≤ 9223372036854775807) = true := decide_eq_true c10
     try have c10b2 : (9223372036854775807 < 1 + t137.size) = False := eq_false (Nat.not_lt.2 c10)
     by_cases c11 : ((⟨#[40]⟩ : ByteArray) ++ t137).size + 1 ≤ 9223372036854775807
     ·rw [if_pos c11] at H
      have c11b0 := eq_true c11
      have c11b1 : decide (((⟨#[40]⟩ : ByteArray) ++ t137).size + 1 ≤ 9223372036854775807) = true := decide_eq_true c11
      try have c11b2 : (9223372036854775807 < ((⟨#[40]⟩ : ByteArray) ++ t137).size + 1) = False := eq_false (Nat.not_lt.2 c11)
      try (have c11b3 := c11b2; simp only [ByteArray.size_append, show ((⟨#[40]⟩ : ByteArray)).size = 1 from rfl] at c11b3)
      obtain rfl := Option.some.inj H
      obtain ⟨Ao12, co12, eo12⟩ := Kd.R_slice HO_3.out
      subst eo12
      go_wp2_with (first | ((with_reducible refine gate_callee (f := 28) rfl ?_); refine goesL_ (some 19) rfl rfl Try.func28 (by kernel_rfl) rfl #[.slice Ao12 x3_1.length co12, .string (⟨#[32]⟩ : ByteArray)] rfl zA ?_; (with_reducible refine (strings_Join.calls _ _ x3_1 (⟨#[32]⟩ : ByteArray) t137 _ ?side1 ?side2 A9.out).mono ?_); (case side1 => repeat (first | exact (Kd.R_reads' HO_3.out).2.2 | (with_reducible refine Kd.C_alloc ?_ _) | (with_reducible refine Kd.C_drewN ?_ _) | (with_reducible refine Kd.C_drew ?_))); (case side2 => exact (Kd.R_reads' HO_3.out).2.1); rintro e w13 ⟨rfl, hb⟩; refine ⟨_, rfl, ?_⟩; have n0_ := Aside0.mk (Kd.R_below (zR HO_3.out) hb); have n1_ := Aside0.mk (below_step (zB HB.out) hb); clear HO_3; clear HB; have HO_3 := n0_; have HB := n1_; clear n0_ n1_; (try clear hb); (try clear hb2); (try clear hk); (try clear hi)))
      go_ret
      exact ⟨zF, zB HB.out⟩
     ·rw [if_neg c11] at H
      exact absurd H (by simp)
    ·rw [if_neg c10] at H
     exact absurd H (by simp)
end Go.Proofs.Ytkgjbdbhpohkiaa.PLi
end
