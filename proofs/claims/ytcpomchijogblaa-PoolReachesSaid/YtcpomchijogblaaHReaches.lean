/- The law PoolReaches, walked. -/
import Derived.Test.YtcpomchijogblaaHActs
import Derived.Test.YtcpomchijogblaaReachLaw
namespace Go.Proofs.Ytcpomchijogblaa.PPo
open Go.RowKit Go.Proofs.YtcpomchijogblaaW.PrintWords Go.Proofs.YtcpomchijogblaaW.PrintLast Go.Proofs.YtcpomchijogblaaW.PrintMore Go.Proofs.Ytcpomchijogblaa.Str
set_option linter.unusedVariables false
set_option linter.unusedSimpArgs false

def turntablelaw12_PoolReaches.f (k : Nat) (a0 : List S25) (a1 : List Int) : Option Bool :=
  if 60 < a0.length ∨ 20 < a1.length then some true else (actsP k true a0 []).bind fun L => some true
/-- What holds behind Reach. -/
structure RAt (w0 : World) (g : Nat) (v : Value) (bs : List Nat) (L : List S73) (n : Int) (Af : Option Addr) (fs : List Int) (Ar : Option Addr) (rs : List Int) (W : World) : Prop where
  pool : PoolD w0.heap.size (fun k => w0.heap.size ≤ k) W g v bs L n
  cf : Kd.C (Kd.int .i64) W Af fs.length fs
  cr : Kd.C (Kd.int .i64) W Ar rs.length rs
  bel : Below w0.heap.size w0 W
theorem RAt.below {w0 : World} {g : Nat} {v : Value} {bs : List Nat} {L : List S73} {n : Int} {Af : Option Addr} {fs : List Int} {Ar : Option Addr} {rs : List Int} {W W' : World} (h : RAt w0 g v bs L n Af fs Ar rs W) (hb : Below W.heap.size W W') : RAt w0 g v bs L n Af fs Ar rs W' :=
  ⟨h.pool.below hb, Kd.C_below h.cf hb, Kd.C_below h.cr hb, below_step h.bel hb⟩
theorem RAt.drewN {w0 : World} {g : Nat} {v : Value} {bs : List Nat} {L : List S73} {n : Int} {Af : Option Addr} {fs : List Int} {Ar : Option Addr} {rs : List Int} {W : World} (h : RAt w0 g v bs L n Af fs Ar rs W) : RAt w0 g v bs L n Af fs Ar rs W.drew := h.below (below_drew1 (Below.refl _ _))
theorem kept_append {w w1 : World} {lo : Nat} {ok : Nat → Prop} {v : Value} {xs : List Int} (hr : Kd.R (Kd.int .i64) 3 w lo ok v xs) (hg : w.grownBy w1 v.ownBlock) : VisKept w w1 :=
  fun k t cells hk h1 _ _ => hg.block k (heap_lt hk) (Kd.R_ne hr hk (fun e => h1 e.symm))

set_option maxHeartbeats 16000000 in
set_option maxRecDepth 100000 in
theorem turntablelaw12_PoolReaches.calls (k : Nat) (A0 : Option Addr) (c0 : Nat) (a0 : List S25) (A1 : Option Addr) (c1 : Nat) (a1 : List Int) (r : Bool) (w : World) (C0 : Kd.C k25 w A0 a0.length a0) (l0 : a0.length ≤ c0) (C1 : Kd.C (Kd.int .u8) w A1 a1.length a1) (l1 : a1.length ≤ c1)
    (h : turntablelaw12_PoolReaches.f k a0 a1 = some r) :
    Calls Try.prog 4 #[.slice A0 a0.length c0, .slice A1 a1.length c1] w fun e w' => e = .returned (.bool r) ∧ Below w.heap.size w w' := by
  have hu25 := Try.underlying25
  have hu31 := Try.underlying31
  have hu27 := Try.underlying27
  unfold turntablelaw12_PoolReaches.f at h
  have HC := Aside0.mk C0
  have HD := Aside0.mk C1
  have hlong : (decide (60 < a0.length) = true ∧ decide ((60 : Int) < (a0.length : Int)) = true) ∨ (decide (60 < a0.length) = false ∧ decide ((60 : Int) < (a0.length : Int)) = false ∧ decide (20 < a1.length) = true ∧ decide ((20 : Int) < (a1.length : Int)) = true) → Calls Try.prog 4 #[.slice A0 a0.length c0, .slice A1 a1.length c1] w fun e w' => e = .returned (.bool true) ∧ Below w.heap.size w w' := by
    clear h C0 l0 C1 l1
    rintro (⟨d0, d1⟩ | ⟨d0, d1, d2, d3⟩)
    all_goals
      go_enter Try.func4, Try.ntmps4
      go_wp2_with fail
      refine (pool_works.calls _).mono ?_
      rintro e w1 ⟨rfl, hb⟩
      have HB := Aside0.mk hb
      clear hb
      go_wp2
      go_ret
      exact ⟨rfl, HB.out⟩
  by_cases h60 : 60 < a0.length
  · rw [if_pos (.inl h60)] at h
    obtain rfl := Option.some.inj h
    exact hlong (.inl ⟨decide_eq_true h60, decide_eq_true (by omega)⟩)
  by_cases h20 : 20 < a1.length
  · rw [if_pos (.inr h20)] at h
    obtain rfl := Option.some.inj h
    exact hlong (.inr ⟨decide_eq_false h60, decide_eq_false (by omega), decide_eq_true h20, decide_eq_true (by omega)⟩)
  rw [if_neg (by omega)] at h
  obtain ⟨L, hacts, h⟩ := Option.bind_eq_some_iff.mp h
  obtain rfl := Option.some.inj h
  have d60 : decide (60 < a0.length) = false := decide_eq_false h60
  have d61 : decide ((60 : Int) < (a0.length : Int)) = false := decide_eq_false (by omega)
  have d20 : decide (20 < a1.length) = false := decide_eq_false h20
  have d21 : decide ((20 : Int) < (a1.length : Int)) = false := decide_eq_false (by omega)
  have HA := Aside0.mk hacts
  have H60 := Aside0.mk h60
  have H20 := Aside0.mk h20
  clear h hacts h60 h20 C0 l0 C1 l1 hlong
  go_enter Try.func4, Try.ntmps4
  go_wp2_with fail
  refine (pool_New.calls _).mono ?_
  rintro e w1 ⟨g, rfl, hp1, hb1⟩
  have HP1 := Aside0.mk (show ActsAt w g k true a0 L 0 w1 from ⟨[], 0, _, _, hp1, hb1, HA.out, by simp, by simp⟩)
  clear hp1 hb1
  go_wp2
  go_loopg [6] a0.length (fun kq v6 w' => ∃ i : Nat, v6 = .int .i64 i ∧ Aside0 (i ≤ a0.length) ∧ Aside0 (ActsAt w g k true a0 L i w') ∧ Aside0 (kq = a0.length - i))
  case atStart => exact ⟨0, rfl, ⟨by omega⟩, ⟨HP1.out⟩, ⟨rfl⟩⟩
  case round =>
    clear HP1
    obtain ⟨i, rfl, HI, HT, HQ⟩ := hrel
    by_cases hi : i < a0.length
    · have c0b : decide ((i : Int) < (a0.length : Int)) = true := decide_eq_true (by omega)
      have c1b : decide (i < a0.length) = true := decide_eq_true hi
      have p0 : (0 ≤ (i : Int)) = True := eq_true (by omega)
      have q0 : ((i : Int) < (a0.length : Int)) = True := eq_true (by omega)
      have q1 : (i < a0.length) = True := eq_true hi
      have hi9 : IntKind.i64.wrap ((i : Int) + 1) = ((i + 1 : Nat) : Int) := by have := H60.out; rw [i64_w, w64 (by omega) (by omega)]; omega
      have hat := fun W (hb : Below w.heap.size w W) => at_T25 (Kd.C_below HC.out hb) i (by omega) (by omega)
      obtain ⟨M, n, v, bs, hp, hb, ha, hl, hn⟩ := HT.out
      rw [List.drop_eq_getElem_cons hi] at ha
      have hrd : rd_T25 a0 i = a0[i] := by unfold rd_T25; rw [List.getD_eq_getElem?_getD, Int.toNat_natCast, List.getElem?_eq_getElem hi]; rfl
      rw [hrd] at hat
      generalize a0[i] = x at ha hat
      obtain ⟨ad, rfl, x0, x1, x2, x3, x4, x5⟩ := hat wr hb
      rw [Int.toNat_natCast] at x0 x1 x2 x3 x4 x5
      have HI2 := Aside0.mk hi
      have HL := Aside0.mk (show M.length ≤ 60 by have := H60.out; omega)
      have HN := Aside0.mk (show 0 ≤ n ∧ n ≤ 17 * (i : Int) ∧ i ≤ 60 by have := H60.out; omega)
      have HLi := Aside0.mk hl
      have HP := Aside0.mk hp
      have HB := Aside0.mk hb
      obtain ⟨L1, ha1, ha2⟩ := Option.bind_eq_some_iff.mp ha
      have HA2 := Aside0.mk ha2
      unfold actP at ha1
      clear hi hrd ha ha2 hp hb hl hn HT hat
      by_cases h0 : x.f0 = 0
      · rw [if_pos h0] at ha1
        have d0 : (x.f0 == 0) = true := beq_iff_eq.mpr h0
        obtain ⟨⟨q1_, q2_⟩, hsh, ha3⟩ := Option.bind_eq_some_iff.mp ha1
        by_cases hr : 0 ≤ q1_ ∧ q1_ ≤ 16
        rotate_left
        · rw [if_neg hr] at ha3
          cases ha3
        rw [if_pos hr] at ha3
        obtain rfl := Option.some.inj ha3
        have HR := Aside0.mk hr
        have HS := Aside0.mk hsh
        clear h0 ha1 ha3 hr hsh
        go_upto_region 10 with (fail)
        refine start_ (n := 13) (S := fun w' => w'.cell? ⟨(ad.add (i * 6)).block, (ad.add (i * 6)).off + 2, none⟩ = some (.int .i64 x.f2) ∧ w'.cell? ⟨(ad.add (i * 6)).block, (ad.add (i * 6)).off + 5, none⟩ = some (.int .u16 x.f5)) (ds := [12]) #[false, false, false, false, false, false, false, false, false, false, false, false, false] (by kernel_rfl) rfl rfl ⟨x2, x5⟩ (fun hHeld => ?_)
        refine pure_ (i := 0) (N := some 46) (v := ?_) (a' := ?_) #[true, false, false, false, false, false, false, false, false, false, false, false, false] rfl rfl (by kernel_rfl) (fun _ _ _ h => h) (Or.inl ⟨by rfl, ?_⟩) ?_ ?_
        rotate_left
        · intro w'
          go_simp
          with_reducible rfl
        rotate_left
        · simp only [Act.put, List.setIfInBounds_toArray, List.set_cons_zero, List.set_cons_succ, i64_w, i32_w]
          rfl
        refine pure_ (i := 1) (N := some 47) (v := ?_) (a' := ?_) #[true, true, false, false, false, false, false, false, false, false, false, false, false] rfl rfl (by kernel_rfl) (fun _ _ _ h => h) (Or.inl ⟨by rfl, ?_⟩) ?_ ?_
        rotate_left
        · intro w'
          go_simp
          with_reducible rfl
        rotate_left
        · simp only [Act.put, List.setIfInBounds_toArray, List.set_cons_zero, List.set_cons_succ, i64_w, i32_w]
          rfl
        refine pure_ (i := 2) (N := some 48) (v := ?_) (a' := ?_) #[true, true, true, false, false, false, false, false, false, false, false, false, false] rfl rfl (by kernel_rfl) (fun _ _ _ h => h) (Or.inl ⟨by rfl, ?_⟩) ?_ ?_
        rotate_left
        · intro w'
          go_simp
          with_reducible rfl
        rotate_left
        · simp only [Act.put, List.setIfInBounds_toArray, List.set_cons_zero, List.set_cons_succ, i64_w, i32_w]
          rfl
        refine pure_ (i := 3) (N := some 49) (v := ?_) (a' := ?_) #[true, true, true, true, false, false, false, false, false, false, false, false, false] rfl rfl (by kernel_rfl) (fun _ _ _ h => h) (Or.inl ⟨by rfl, ?_⟩) ?_ ?_
        rotate_left
        · intro w'
          go_simp
          with_reducible rfl
        rotate_left
        · simp only [Act.put, List.setIfInBounds_toArray, List.set_cons_zero, List.set_cons_succ, i64_w, i32_w]
          rfl
        refine pure_ (i := 4) (N := some 50) (v := ?_) (a' := ?_) #[true, true, true, true, true, false, false, false, false, false, false, false, false] rfl rfl (by kernel_rfl) (fun _ _ _ h => h) (Or.inl ⟨by rfl, ?_⟩) ?_ ?_
        rotate_left
        · intro w'
          go_simp
          with_reducible rfl
        rotate_left
        · simp only [Act.put, List.setIfInBounds_toArray, List.set_cons_zero, List.set_cons_succ, i64_w, i32_w]
          rfl
        refine pure_ (i := 6) (N := some 52) (v := ?_) (a' := ?_) #[true, true, true, true, true, false, true, false, false, false, false, false, false] rfl rfl (by kernel_rfl) (fun _ _ _ h => h) (Or.inl ⟨by rfl, ?_⟩) ?_ ?_
        rotate_left
        · intro w'
          go_simp
          with_reducible rfl
        rotate_left
        · simp only [Act.put, List.setIfInBounds_toArray, List.set_cons_zero, List.set_cons_succ, i64_w, i32_w]
          rfl
        refine pure_ (i := 7) (N := some 53) (v := ?_) (a' := ?_) #[true, true, true, true, true, false, true, true, false, false, false, false, false] rfl rfl (by kernel_rfl) (fun _ _ _ h => h) (Or.inl ⟨by rfl, ?_⟩) ?_ ?_
        rotate_left
        · intro w'
          go_simp
          with_reducible rfl
        rotate_left
        · simp only [Act.put, List.setIfInBounds_toArray, List.set_cons_zero, List.set_cons_succ, i64_w, i32_w]
          rfl
        refine pure_ (i := 8) (N := some 54) (v := ?_) (a' := ?_) #[true, true, true, true, true, false, true, true, true, false, false, false, false] rfl rfl (by kernel_rfl) (fun _ _ _ h => h) (Or.inl ⟨by rfl, ?_⟩) ?_ ?_
        rotate_left
        · intro w'
          go_simp
          with_reducible rfl
        rotate_left
        · simp only [Act.put, List.setIfInBounds_toArray, List.set_cons_zero, List.set_cons_succ, i64_w, i32_w]
          rfl
        refine pure_ (i := 9) (N := some 55) (v := ?_) (a' := ?_) #[true, true, true, true, true, false, true, true, true, true, false, false, false] rfl rfl (by kernel_rfl) (fun _ _ _ h => h) (Or.inl ⟨by rfl, ?_⟩) ?_ ?_
        rotate_left
        · intro w'
          go_simp
          with_reducible rfl
        rotate_left
        · simp only [Act.put, List.setIfInBounds_toArray, List.set_cons_zero, List.set_cons_succ, i64_w, i32_w]
          rfl
        refine take_ (i := 5) (N := some 51) (v := ?_) (a' := ?_) #[true, true, true, true, true, true, true, true, true, true, false, false, false] rfl rfl (by kernel_rfl) (fun _ _ _ h => h) (Or.inl ⟨by rfl, ?_⟩) hHeld ?_ ?_
        rotate_left
        · rintro w' ⟨s0, s1⟩
          go_simp
          with_reducible rfl
        rotate_left
        · simp only [Act.put, List.setIfInBounds_toArray, List.set_cons_zero, List.set_cons_succ, i64_w, i32_w]
          rfl
        refine take_ (i := 10) (N := some 56) (v := ?_) (a' := ?_) #[true, true, true, true, true, true, true, true, true, true, true, false, false] rfl rfl (by kernel_rfl) (fun _ _ _ h => h) (Or.inl ⟨by rfl, ?_⟩) hHeld ?_ ?_
        rotate_left
        · rintro w' ⟨s0, s1⟩
          go_simp
          with_reducible rfl
        rotate_left
        · simp only [Act.put, List.setIfInBounds_toArray, List.set_cons_zero, List.set_cons_succ, i64_w, i32_w]
          rfl
        refine one_ (i := 11) (N := some 57) #[true, true, true, true, true, true, true, true, true, true, true, true, false] rfl rfl (by kernel_rfl) (by decide) (fun K hK => ?_)
        refine goes_ Try.func13 (by kernel_rfl) rfl #[.int .i64 x.f2, .int .u16 x.f5] (by rfl) rfl rfl (by simp only [List.map_toArray, List.map_cons, List.map_nil]; rfl) ?_
        with_reducible refine (turntablelaw12_Shape.calls k x.f2 x.f5 q1_ q2_ _ HS.out).mono ?_
        rintro e w4 ⟨rfl, hb4⟩
        refine ⟨_, rfl, ?_⟩
        have x2b := pw_cell_below hb4 (show wr.drew.cell? _ = _ from x2)
        have x5b := pw_cell_below hb4 (show wr.drew.cell? _ = _ from x5)
        have HB4 := Aside0.mk (below_step (below_drew1 (Below.refl wr.heap.size wr)) hb4)
        clear hb4
        refine hK.out _ _ ⟨x2b, x5b⟩ (fun hHeld => ?_)
        clear hK K
        refine norm_ (a' := ?_) ?_ ?_
        rotate_left
        · show Act.put _ (some 57) _ = _
          simp only [Act.put, List.setIfInBounds_toArray, List.set_cons_zero, List.set_cons_succ, i64_w, i32_w]
          rfl
        refine last_ (i := 12) (N := some 58) #[true, true, true, true, true, true, true, true, true, true, true, true, true] rfl rfl (by kernel_rfl) (by decide) (fun K hK => ?_)
        refine goes_ Try.func12 (by kernel_rfl) rfl #[.pointer (some ⟨g, 0, none⟩), .agg #[.int .i64 q1_, .int .i64 q2_]] (by rfl) rfl rfl (by simp only [List.map_toArray, List.map_cons, List.map_nil]; rfl) ?_
        with_reducible refine (pool_Make.calls q1_ q2_ HR.out.1 HR.out.2 w4 (HP.out.below HB4.out) (fun k hk => Nat.le_trans (below_size HB.out) (Nat.le_trans (below_size HB4.out) hk)) (Nat.le_trans (below_size HB.out) (below_size HB4.out)) ⟨HN.out.1, by have := HN.out; omega⟩ (by have := HL.out; omega)).mono ?_
        rintro e w5 ⟨rfl, ⟨v5, b5, hp5⟩, hb5, -⟩
        refine ⟨_, rfl, ?_⟩
        have HT5 := Aside0.mk (show ActsAt w g k true a0 L (i + 1) w5 from ⟨_, _, v5, _, hp5, (below_step HB.out HB4.out).trans hb5, HA2.out, by rw [List.length_append]; have := HLi.out; simp; omega, by have := HN.out; have := HR.out; omega⟩)
        clear hp5 hb5
        refine hK.out _ _ ?_
        clear hK K
        refine norm_ (a' := ?_) ?_ ?_
        rotate_left
        · show Act.put _ (some 58) _ = _
          simp only [Act.put, List.setIfInBounds_toArray, List.set_cons_zero, List.set_cons_succ, i64_w, i32_w]
          rfl
        refine done_ (by kernel_rfl) ?_
        go_wp2
        go_roundg (a0.length - (i + 1))
        case measure => have := HQ.out; have := HI2.out; omega
        case rel => exact ⟨i + 1, by simp, ⟨by have := HI2.out; omega⟩, ⟨HT5.out⟩, ⟨rfl⟩⟩
      · rw [if_neg h0] at ha1
        have d0 : (x.f0 == 0) = false := beq_eq_false_iff_ne.mpr h0
        by_cases hr : -9223372036854775808 ≤ x.f1
        rotate_left
        · rw [if_neg hr] at ha1
          cases ha1
        rw [if_pos hr] at ha1
        obtain rfl := Option.some.inj ha1
        have HR := Aside0.mk hr
        clear h0 ha1 hr
        go_upto_region 11 with (fail)
        refine start_ (n := 17) (S := fun w' => w'.cell? ⟨(ad.add (i * 6)).block, (ad.add (i * 6)).off + 1, none⟩ = some (.int .i64 x.f1) ∧ w'.cell? ⟨(ad.add (i * 6)).block, (ad.add (i * 6)).off + 2, none⟩ = some (.int .i64 x.f2) ∧ w'.cell? ⟨(ad.add (i * 6)).block, (ad.add (i * 6)).off + 4, none⟩ = some (.int .i64 x.f4)) (ds := [16]) #[false, false, false, false, false, false, false, false, false, false, false, false, false, false, false, false, false] (by kernel_rfl) rfl rfl ⟨x1, x2, x4⟩ (fun hHeld => ?_)
        refine pure_ (i := 0) (N := some 59) (v := ?_) (a' := ?_) #[true, false, false, false, false, false, false, false, false, false, false, false, false, false, false, false, false] rfl rfl (by kernel_rfl) (fun _ _ _ h => h) (Or.inl ⟨by rfl, ?_⟩) ?_ ?_
        rotate_left
        · intro w'
          go_simp
          with_reducible rfl
        rotate_left
        · simp only [Act.put, List.setIfInBounds_toArray, List.set_cons_zero, List.set_cons_succ, i64_w, i32_w]
          rfl
        refine pure_ (i := 1) (N := some 60) (v := ?_) (a' := ?_) #[true, true, false, false, false, false, false, false, false, false, false, false, false, false, false, false, false] rfl rfl (by kernel_rfl) (fun _ _ _ h => h) (Or.inl ⟨by rfl, ?_⟩) ?_ ?_
        rotate_left
        · intro w'
          go_simp
          with_reducible rfl
        rotate_left
        · simp only [Act.put, List.setIfInBounds_toArray, List.set_cons_zero, List.set_cons_succ, i64_w, i32_w]
          rfl
        refine pure_ (i := 2) (N := some 61) (v := ?_) (a' := ?_) #[true, true, true, false, false, false, false, false, false, false, false, false, false, false, false, false, false] rfl rfl (by kernel_rfl) (fun _ _ _ h => h) (Or.inl ⟨by rfl, ?_⟩) ?_ ?_
        rotate_left
        · intro w'
          go_simp
          with_reducible rfl
        rotate_left
        · simp only [Act.put, List.setIfInBounds_toArray, List.set_cons_zero, List.set_cons_succ, i64_w, i32_w]
          rfl
        refine pure_ (i := 3) (N := some 62) (v := ?_) (a' := ?_) #[true, true, true, true, false, false, false, false, false, false, false, false, false, false, false, false, false] rfl rfl (by kernel_rfl) (fun _ _ _ h => h) (Or.inl ⟨by rfl, ?_⟩) ?_ ?_
        rotate_left
        · intro w'
          go_simp
          with_reducible rfl
        rotate_left
        · simp only [Act.put, List.setIfInBounds_toArray, List.set_cons_zero, List.set_cons_succ, i64_w, i32_w]
          rfl
        refine pure_ (i := 4) (N := some 63) (v := ?_) (a' := ?_) #[true, true, true, true, true, false, false, false, false, false, false, false, false, false, false, false, false] rfl rfl (by kernel_rfl) (fun _ _ _ h => h) (Or.inl ⟨by rfl, ?_⟩) ?_ ?_
        rotate_left
        · intro w'
          go_simp
          with_reducible rfl
        rotate_left
        · simp only [Act.put, List.setIfInBounds_toArray, List.set_cons_zero, List.set_cons_succ, i64_w, i32_w]
          rfl
        refine pure_ (i := 6) (N := some 65) (v := ?_) (a' := ?_) #[true, true, true, true, true, false, true, false, false, false, false, false, false, false, false, false, false] rfl rfl (by kernel_rfl) (fun _ _ _ h => h) (Or.inl ⟨by rfl, ?_⟩) ?_ ?_
        rotate_left
        · intro w'
          go_simp
          with_reducible rfl
        rotate_left
        · simp only [Act.put, List.setIfInBounds_toArray, List.set_cons_zero, List.set_cons_succ, i64_w, i32_w]
          rfl
        refine pure_ (i := 7) (N := some 66) (v := ?_) (a' := ?_) #[true, true, true, true, true, false, true, true, false, false, false, false, false, false, false, false, false] rfl rfl (by kernel_rfl) (fun _ _ _ h => h) (Or.inl ⟨by rfl, ?_⟩) ?_ ?_
        rotate_left
        · intro w'
          go_simp
          with_reducible rfl
        rotate_left
        · simp only [Act.put, List.setIfInBounds_toArray, List.set_cons_zero, List.set_cons_succ, i64_w, i32_w]
          rfl
        refine pure_ (i := 8) (N := some 67) (v := ?_) (a' := ?_) #[true, true, true, true, true, false, true, true, true, false, false, false, false, false, false, false, false] rfl rfl (by kernel_rfl) (fun _ _ _ h => h) (Or.inl ⟨by rfl, ?_⟩) ?_ ?_
        rotate_left
        · intro w'
          go_simp
          with_reducible rfl
        rotate_left
        · simp only [Act.put, List.setIfInBounds_toArray, List.set_cons_zero, List.set_cons_succ, i64_w, i32_w]
          rfl
        refine pure_ (i := 9) (N := some 68) (v := ?_) (a' := ?_) #[true, true, true, true, true, false, true, true, true, true, false, false, false, false, false, false, false] rfl rfl (by kernel_rfl) (fun _ _ _ h => h) (Or.inl ⟨by rfl, ?_⟩) ?_ ?_
        rotate_left
        · intro w'
          go_simp
          with_reducible rfl
        rotate_left
        · simp only [Act.put, List.setIfInBounds_toArray, List.set_cons_zero, List.set_cons_succ, i64_w, i32_w]
          rfl
        refine pure_ (i := 11) (N := some 70) (v := ?_) (a' := ?_) #[true, true, true, true, true, false, true, true, true, true, false, true, false, false, false, false, false] rfl rfl (by kernel_rfl) (fun _ _ _ h => h) (Or.inl ⟨by rfl, ?_⟩) ?_ ?_
        rotate_left
        · intro w'
          go_simp
          with_reducible rfl
        rotate_left
        · simp only [Act.put, List.setIfInBounds_toArray, List.set_cons_zero, List.set_cons_succ, i64_w, i32_w]
          rfl
        refine pure_ (i := 12) (N := some 71) (v := ?_) (a' := ?_) #[true, true, true, true, true, false, true, true, true, true, false, true, true, false, false, false, false] rfl rfl (by kernel_rfl) (fun _ _ _ h => h) (Or.inl ⟨by rfl, ?_⟩) ?_ ?_
        rotate_left
        · intro w'
          go_simp
          with_reducible rfl
        rotate_left
        · simp only [Act.put, List.setIfInBounds_toArray, List.set_cons_zero, List.set_cons_succ, i64_w, i32_w]
          rfl
        refine pure_ (i := 13) (N := some 72) (v := ?_) (a' := ?_) #[true, true, true, true, true, false, true, true, true, true, false, true, true, true, false, false, false] rfl rfl (by kernel_rfl) (fun _ _ _ h => h) (Or.inl ⟨by rfl, ?_⟩) ?_ ?_
        rotate_left
        · intro w'
          go_simp
          with_reducible rfl
        rotate_left
        · simp only [Act.put, List.setIfInBounds_toArray, List.set_cons_zero, List.set_cons_succ, i64_w, i32_w]
          rfl
        refine pure_ (i := 14) (N := some 73) (v := ?_) (a' := ?_) #[true, true, true, true, true, false, true, true, true, true, false, true, true, true, true, false, false] rfl rfl (by kernel_rfl) (fun _ _ _ h => h) (Or.inl ⟨by rfl, ?_⟩) ?_ ?_
        rotate_left
        · intro w'
          go_simp
          with_reducible rfl
        rotate_left
        · simp only [Act.put, List.setIfInBounds_toArray, List.set_cons_zero, List.set_cons_succ, i64_w, i32_w]
          rfl
        refine take_ (i := 5) (N := some 64) (v := ?_) (a' := ?_) #[true, true, true, true, true, true, true, true, true, true, false, true, true, true, true, false, false] rfl rfl (by kernel_rfl) (fun _ _ _ h => h) (Or.inl ⟨by rfl, ?_⟩) hHeld ?_ ?_
        rotate_left
        · rintro w' ⟨s0, s1, s2⟩
          go_simp
          with_reducible rfl
        rotate_left
        · simp only [Act.put, List.setIfInBounds_toArray, List.set_cons_zero, List.set_cons_succ, i64_w, i32_w]
          rfl
        refine take_ (i := 10) (N := some 69) (v := ?_) (a' := ?_) #[true, true, true, true, true, true, true, true, true, true, true, true, true, true, true, false, false] rfl rfl (by kernel_rfl) (fun _ _ _ h => h) (Or.inl ⟨by rfl, ?_⟩) hHeld ?_ ?_
        rotate_left
        · rintro w' ⟨s0, s1, s2⟩
          go_simp
          with_reducible rfl
        rotate_left
        · simp only [Act.put, List.setIfInBounds_toArray, List.set_cons_zero, List.set_cons_succ, i64_w, i32_w]
          rfl
        refine take_ (i := 15) (N := some 74) (v := ?_) (a' := ?_) #[true, true, true, true, true, true, true, true, true, true, true, true, true, true, true, true, false] rfl rfl (by kernel_rfl) (fun _ _ _ h => h) (Or.inl ⟨by rfl, ?_⟩) hHeld ?_ ?_
        rotate_left
        · rintro w' ⟨s0, s1, s2⟩
          go_simp
          with_reducible rfl
        rotate_left
        · simp only [Act.put, List.setIfInBounds_toArray, List.set_cons_zero, List.set_cons_succ, i64_w, i32_w]
          rfl
        refine last_ (i := 16) (N := some 75) #[true, true, true, true, true, true, true, true, true, true, true, true, true, true, true, true, true] rfl rfl (by kernel_rfl) (by decide) (fun K hK => ?_)
        refine goes_ Try.func14 (by kernel_rfl) rfl #[.pointer (some ⟨g, 0, none⟩), .int .i64 x.f1, .int .i64 x.f2, .bool true, .int .i64 x.f4] (by rfl) rfl rfl (by simp only [List.map_toArray, List.map_cons, List.map_nil]; rfl) ?_
        with_reducible refine (pool_Store.calls x.f1 x.f2 true x.f4 HR.out wr.drew (HP.out.below (below_drew1 (Below.refl _ _)))).mono ?_
        rintro e w5 ⟨rfl, w5b, hb5, hw5⟩
        refine ⟨_, rfl, ?_⟩
        have HT5 := Aside0.mk (acts_stored HP.out (below_drew1 (Below.refl _ _)) hb5 hw5 HB.out (by have := HA2.out; rwa [Bool.or_true] at this) (show M.length ≤ i + 1 by have := HLi.out; omega) (show 0 ≤ n ∧ n ≤ 17 * ((i + 1 : Nat) : Int) by have := HN.out; omega))
        clear hb5 hw5
        refine hK.out _ _ ?_
        clear hK K
        refine norm_ (a' := ?_) ?_ ?_
        rotate_left
        · show Act.put _ (some 75) _ = _
          simp only [Act.put, List.setIfInBounds_toArray, List.set_cons_zero, List.set_cons_succ, i64_w, i32_w]
          rfl
        refine done_ (by kernel_rfl) ?_
        go_wp2
        go_roundg (a0.length - (i + 1))
        case measure => have := HQ.out; have := HI2.out; omega
        case rel => exact ⟨i + 1, by simp, ⟨by have := HI2.out; omega⟩, ⟨HT5.out⟩, ⟨rfl⟩⟩
    · have c0b : decide ((i : Int) < (a0.length : Int)) = false := decide_eq_false (by omega)
      have c1b : decide (i < a0.length) = false := decide_eq_false hi
      obtain ⟨M, n, v, bs, hp, hb, ha, hl, hn⟩ := HT.out
      rw [List.drop_eq_nil_of_le (by omega)] at ha
      obtain rfl : M = L := Option.some.inj ha
      have HP := Aside0.mk hp
      have HB := Aside0.mk hb
      have HLL := Aside0.mk (show (M.length + 2) * 40 ≤ 140737488355328 by have := H60.out; have := HI.out; omega)
      clear HT hi hp hb ha hl hn HA HI HQ
      go_wp2
      go_loopg [7, 8] a1.length (fun kq v7 v8 w' => ∃ (i : Nat) (vv : Value), v8 = .int .i64 i ∧ vv = v7 ∧ Aside0 (i ≤ a1.length) ∧ Aside0 (Kd.R (Kd.int .i64) 3 w' w.heap.size (fun _ => True) vv ((a1.take i).map wrap64)) ∧ Aside0 (PoolD w.heap.size (fun k => w.heap.size ≤ k) w' g v bs M n) ∧ Aside0 (Below w.heap.size w w') ∧ Aside0 (kq = a1.length - i))
      case atStart => exact ⟨0, _, rfl, rfl, ⟨by omega⟩, ⟨Kd.R_nil _ _ _ _ _⟩, ⟨HP.out⟩, ⟨HB.out⟩, ⟨rfl⟩⟩
      case round =>
        clear HP HB
        obtain ⟨i, vv, rfl, e7, HI, HR, HP, HB, HQ⟩ := hrel
        subst e7
        by_cases hi : i < a1.length
        · have c2b : decide ((i : Int) < (a1.length : Int)) = true := decide_eq_true (by omega)
          have c3b : decide (i < a1.length) = true := decide_eq_true hi
          have p0 : (0 ≤ (i : Int)) = True := eq_true (by omega)
          have q0 : ((i : Int) < (a1.length : Int)) = True := eq_true (by omega)
          have q1 : (i < a1.length) = True := eq_true hi
          have hi9 : IntKind.i64.wrap ((i : Int) + 1) = ((i + 1 : Nat) : Int) := by have := H20.out; rw [i64_w, w64 (by omega) (by omega)]; omega
          obtain ⟨ad, ea, hx⟩ := Kd.at_int (Kd.C_below HD.out HB.out) i (by omega) (by omega)
          cases ea
          rw [Int.toNat_natCast] at hx
          have hlen : ((a1.take i).map wrap64).length ≤ 20 := by rw [List.length_map, List.length_take]; have := H20.out; omega
          have htk : (a1.take (i + 1)).map wrap64 = (a1.take i).map wrap64 ++ [wrap64 (rd a1 i)] := by
            rw [List.take_succ_eq_append_getElem hi, List.map_append, rd_at_ a1 i hi]
            rfl
          have HTk := Aside0.mk htk
          have HLe := Aside0.mk hlen
          have HI2 := Aside0.mk hi
          clear hi hlen htk
          generalize (a1.take i).map wrap64 = xs at HR HTk HLe
          generalize rd a1 i = y at hx HTk
          go_wp2_with (first | ((with_reducible refine gate_builtin (b := .append) (xs := #[.tmp 82, .tmp 88]) rfl ?_); at_builtin; refine Kd.R_append (Kd.int .i64) (w0 := w) w.heap.size rfl (.tmp 82) (.tmp 88) 40 3 (.int .i64 0) 8 rfl Try.underlying40 (by kernel_rfl) rfl (by decide) (by omega) vv xs (wrap64 y) [.int .i64 (wrap64 y)] (fun _ => True) (fun _ => False) rfl rfl rfl (fun _ hk => hk.elim) (fun k hk => trivial) HR.out HB.out (below_size HB.out) (by have := HLe.out; omega) ?_; intro v1 w4 hr4 hb4 hg4 hv4; have HR4 := Aside0.mk hr4; have HB4 := Aside0.mk hb4; have HP4 := Aside0.mk (HP.out.typed (kept_append HR.out hg4)); clear hr4 hb4 hg4 hv4))
          go_roundg (a1.length - (i + 1))
          case measure => have := HQ.out; have := HI2.out; omega
          case rel => exact ⟨i + 1, _, by simp, rfl, ⟨by have := HI2.out; omega⟩, ⟨by rw [HTk.out]; exact HR4.out⟩, ⟨HP4.out⟩, ⟨HB4.out⟩, ⟨rfl⟩⟩
        · have c2b : decide ((i : Int) < (a1.length : Int)) = false := decide_eq_false (by omega)
          have c3b : decide (i < a1.length) = false := decide_eq_false hi
          have hr := HR.out
          rw [List.take_of_length_le (by omega)] at hr
          obtain ⟨fs, hfs⟩ : ∃ fs : List Int, fs = a1.map wrap64 := ⟨_, rfl⟩
          rw [← hfs] at hr
          have HFl := Aside0.mk (show fs.length ≤ 20 by rw [hfs, List.length_map]; have := H20.out; omega)
          obtain ⟨Af, cf, hvf, hlf, hCf⟩ := Kd.R_reads hr
          subst hvf
          have HCf := Aside0.mk hCf
          clear HR hi HI HQ hr hfs hlf hCf
          go_wp2_with fail
          refine (pool_Reach.calls Af cf fs _ HP.out HCf.out HLL.out).mono ?_
          have hok := reach_ok HP.out.ob fs
          generalize reachP M fs = rs at hok ⊢
          rintro e w4 ⟨⟨Ar, rfl, hCr⟩, hb4⟩
          have HRt := Aside0.mk (⟨HP.out.below hb4, Kd.C_below HCf.out hb4, hCr, below_step HB.out hb4⟩ : RAt w g v bs M n Af fs Ar rs w4)
          have HRl := Aside0.mk hCr.2.1
          have HOk := Aside0.mk hok
          clear hok hCr hb4 HP HB HCf
          go_wp2
          go_loopg [10] rs.length (fun kq v10 w' => ∃ i : Nat, v10 = .int .i64 i ∧ Aside0 (i ≤ rs.length) ∧ Aside0 (RAt w g v bs M n Af fs Ar rs w') ∧ Aside0 (kq = rs.length - i))
          case atStart => exact ⟨0, rfl, ⟨by omega⟩, ⟨HRt.out⟩, ⟨rfl⟩⟩
          case round =>
            clear HRt
            obtain ⟨i, rfl, HI, HRt, HQ⟩ := hrel
            by_cases hi : i < rs.length
            · have c4b : decide ((i : Int) < (rs.length : Int)) = true := decide_eq_true (by omega)
              have c5b : decide (i < rs.length) = true := decide_eq_true hi
              have p0 : (0 ≤ (i : Int)) = True := eq_true (by omega)
              have q0 : ((i : Int) < (rs.length : Int)) = True := eq_true (by omega)
              have q1 : (i < rs.length) = True := eq_true hi
              have hi9 : IntKind.i64.wrap ((i : Int) + 1) = ((i + 1 : Nat) : Int) := by have := HRl.out; rw [i64_w, w64 (by omega) (by omega)]; omega
              have hri : ∀ W, RAt w g v bs M n Af fs Ar rs W → ∃ ad, Ar = some ad ∧ W.cell? (ad.add i) = some (.int .i64 (rd rs i)) := fun W h => by
                have := Kd.at_int h.cr i (by omega) (by omega)
                rwa [Int.toNat_natCast] at this
              obtain ⟨ar, rfl, -⟩ := hri wr HRt.out
              have hrj : ∀ W, RAt w g v bs M n Af fs (some ar) rs W → ∀ j : Nat, j < rs.length → W.cell? (ar.add j) = some (.int .i64 (rd rs j)) := fun W h j hj => by
                obtain ⟨ad, ea, hc⟩ := Kd.at_int h.cr j (by omega) (by omega)
                cases ea
                rwa [Int.toNat_natCast] at hc
              have HRj := Aside0.mk hrj
              have HRi := Aside0.mk (fun W (h : RAt w g v bs M n Af fs (some ar) rs W) => hrj W h i hi)
              have hfj : ∀ W, RAt w g v bs M n Af fs (some ar) rs W → ∀ j : Nat, j < fs.length → ∃ ad, Af = some ad ∧ W.cell? (ad.add j) = some (.int .i64 (rd fs j)) := fun W h j hj => by
                have := Kd.at_int h.cf j (by omega) (by omega)
                rwa [Int.toNat_natCast] at this
              have HFj := Aside0.mk hfj
              have HI2 := Aside0.mk hi
              have HId := Aside0.mk (HOk.out.ids i hi)
              have HNe := Aside0.mk (fun j (hj : j < i) => HOk.out.ne i j hi hj)
              have HSr := Aside0.mk (HOk.out.src i hi)
              have HIn := Aside0.mk (HOk.out.into i hi)
              clear hi hri hrj hfj
              generalize hy : rd rs (i : Int) = y at HRi HId HNe HSr HIn
              clear hy
              go_wp2
              go_loopg [11, 12] fs.length (fun kq v11 v12 w' => ∃ j : Nat, v12 = .int .i64 j ∧ v11 = .bool (seenF fs y j) ∧ Aside0 (j ≤ fs.length) ∧ Aside0 (RAt w g v bs M n Af fs (some ar) rs w') ∧ Aside0 (kq = fs.length - j))
              case atStart => exact ⟨0, rfl, rfl, ⟨by omega⟩, ⟨HRt.out⟩, ⟨rfl⟩⟩
              case round =>
                clear HRt
                obtain ⟨j, rfl, rfl, HJ, HRt, HQj⟩ := hrel
                by_cases hj : j < fs.length
                · have c6b : decide ((j : Int) < (fs.length : Int)) = true := decide_eq_true (by omega)
                  have c7b : decide (j < fs.length) = true := decide_eq_true hj
                  have p1 : (0 ≤ (j : Int)) = True := eq_true (by omega)
                  have r0 : ((j : Int) < (fs.length : Int)) = True := eq_true (by omega)
                  have r1 : (j < fs.length) = True := eq_true hj
                  have hj9 : IntKind.i64.wrap ((j : Int) + 1) = ((j + 1 : Nat) : Int) := by have := HFl.out; rw [i64_w, w64 (by omega) (by omega)]; omega
                  obtain ⟨af, rfl, hf⟩ := HFj.out wr HRt.out j hj
                  have hr := HRi.out wr HRt.out
                  have HJ2 := Aside0.mk hj
                  have HSu := Aside0.mk (seenF_succ y hj)
                  clear hj
                  generalize rd fs (j : Int) = x at hf HSu
                  cases hs : seenF fs y j with
                  | true =>
                    rw [hs] at HSu
                    clear hs
                    go_upto_region 25 with (fail)
                    refine start_ (n := 13) (S := fun w' => True) (ds := []) #[false, false, false, false, false, false, false, false, false, false, false, false, false] (by kernel_rfl) rfl rfl trivial (fun hHeld => ?_)
                    refine pure_ (i := 0) (N := some 105) (v := ?_) (a' := ?_) #[true, false, false, false, false, false, false, false, false, false, false, false, false] rfl rfl (by kernel_rfl) (fun _ _ _ h => h) (Or.inl ⟨by rfl, ?_⟩) ?_ ?_
                    rotate_left
                    · intro w'
                      go_simp
                      with_reducible rfl
                    rotate_left
                    · simp only [Act.put, List.setIfInBounds_toArray, List.set_cons_zero, List.set_cons_succ, i64_w, i32_w]
                      rfl
                    refine pure_ (i := 1) (N := some 106) (v := ?_) (a' := ?_) #[true, true, false, false, false, false, false, false, false, false, false, false, false] rfl rfl (by kernel_rfl) (fun _ _ _ h => h) (Or.inl ⟨by rfl, ?_⟩) ?_ ?_
                    rotate_left
                    · intro w'
                      go_simp
                      with_reducible rfl
                    rotate_left
                    · simp only [Act.put, List.setIfInBounds_toArray, List.set_cons_zero, List.set_cons_succ, i64_w, i32_w]
                      rfl
                    refine pure_ (i := 2) (N := some 107) (v := undef) (a' := ?_) #[true, true, true, false, false, false, false, false, false, false, false, false, false] rfl rfl (by kernel_rfl) (fun _ _ _ h => h) (Or.inr ⟨by rfl, rfl⟩) ?_ ?_
                    rotate_left
                    · simp only [Act.put, List.setIfInBounds_toArray, List.set_cons_zero, List.set_cons_succ, i64_w, i32_w]
                      rfl
                    refine pure_ (i := 3) (N := some 108) (v := undef) (a' := ?_) #[true, true, true, true, false, false, false, false, false, false, false, false, false] rfl rfl (by kernel_rfl) (fun _ _ _ h => h) (Or.inr ⟨by rfl, rfl⟩) ?_ ?_
                    rotate_left
                    · simp only [Act.put, List.setIfInBounds_toArray, List.set_cons_zero, List.set_cons_succ, i64_w, i32_w]
                      rfl
                    refine pure_ (i := 4) (N := some 109) (v := undef) (a' := ?_) #[true, true, true, true, true, false, false, false, false, false, false, false, false] rfl rfl (by kernel_rfl) (fun _ _ _ h => h) (Or.inr ⟨by rfl, rfl⟩) ?_ ?_
                    rotate_left
                    · simp only [Act.put, List.setIfInBounds_toArray, List.set_cons_zero, List.set_cons_succ, i64_w, i32_w]
                      rfl
                    refine pure_ (i := 5) (N := some 110) (v := undef) (a' := ?_) #[true, true, true, true, true, true, false, false, false, false, false, false, false] rfl rfl (by kernel_rfl) (fun _ _ _ h => h) (Or.inr ⟨by rfl, rfl⟩) ?_ ?_
                    rotate_left
                    · simp only [Act.put, List.setIfInBounds_toArray, List.set_cons_zero, List.set_cons_succ, i64_w, i32_w]
                      rfl
                    refine pure_ (i := 6) (N := some 111) (v := undef) (a' := ?_) #[true, true, true, true, true, true, true, false, false, false, false, false, false] rfl rfl (by kernel_rfl) (fun _ _ _ h => h) (Or.inr ⟨by rfl, rfl⟩) ?_ ?_
                    rotate_left
                    · simp only [Act.put, List.setIfInBounds_toArray, List.set_cons_zero, List.set_cons_succ, i64_w, i32_w]
                      rfl
                    refine pure_ (i := 7) (N := some 112) (v := undef) (a' := ?_) #[true, true, true, true, true, true, true, true, false, false, false, false, false] rfl rfl (by kernel_rfl) (fun _ _ _ h => h) (Or.inr ⟨by rfl, rfl⟩) ?_ ?_
                    rotate_left
                    · simp only [Act.put, List.setIfInBounds_toArray, List.set_cons_zero, List.set_cons_succ, i64_w, i32_w]
                      rfl
                    refine pure_ (i := 8) (N := some 113) (v := undef) (a' := ?_) #[true, true, true, true, true, true, true, true, true, false, false, false, false] rfl rfl (by kernel_rfl) (fun _ _ _ h => h) (Or.inr ⟨by rfl, rfl⟩) ?_ ?_
                    rotate_left
                    · simp only [Act.put, List.setIfInBounds_toArray, List.set_cons_zero, List.set_cons_succ, i64_w, i32_w]
                      rfl
                    refine pure_ (i := 9) (N := some 114) (v := undef) (a' := ?_) #[true, true, true, true, true, true, true, true, true, true, false, false, false] rfl rfl (by kernel_rfl) (fun _ _ _ h => h) (Or.inr ⟨by rfl, rfl⟩) ?_ ?_
                    rotate_left
                    · simp only [Act.put, List.setIfInBounds_toArray, List.set_cons_zero, List.set_cons_succ, i64_w, i32_w]
                      rfl
                    refine pure_ (i := 10) (N := some 115) (v := undef) (a' := ?_) #[true, true, true, true, true, true, true, true, true, true, true, false, false] rfl rfl (by kernel_rfl) (fun _ _ _ h => h) (Or.inr ⟨by rfl, rfl⟩) ?_ ?_
                    rotate_left
                    · simp only [Act.put, List.setIfInBounds_toArray, List.set_cons_zero, List.set_cons_succ, i64_w, i32_w]
                      rfl
                    refine pure_ (i := 11) (N := some 116) (v := ?_) (a' := ?_) #[true, true, true, true, true, true, true, true, true, true, true, true, false] rfl rfl (by kernel_rfl) (fun _ _ _ h => h) (Or.inl ⟨by rfl, ?_⟩) ?_ ?_
                    rotate_left
                    · intro w'
                      go_simp
                      with_reducible rfl
                    rotate_left
                    · simp only [Act.put, List.setIfInBounds_toArray, List.set_cons_zero, List.set_cons_succ, i64_w, i32_w]
                      rfl
                    refine pure_ (i := 12) (N := some 11) (v := ?_) (a' := ?_) #[true, true, true, true, true, true, true, true, true, true, true, true, true] rfl rfl (by kernel_rfl) (fun _ _ _ h => h) (Or.inl ⟨by rfl, ?_⟩) ?_ ?_
                    rotate_left
                    · intro w'
                      go_simp
                      with_reducible rfl
                    rotate_left
                    · simp only [Act.put, List.setIfInBounds_toArray, List.set_cons_zero, List.set_cons_succ, i64_w, i32_w]
                      rfl
                    refine done_ (by kernel_rfl) ?_
                    have HR4 := Aside0.mk HRt.out.drewN
                    go_wp2
                    go_roundg (fs.length - (j + 1))
                    case measure => have := HQj.out; have := HJ2.out; omega
                    case rel => exact ⟨j + 1, by simp, by rw [HSu.out]; rfl, ⟨by have := HJ2.out; omega⟩, ⟨HR4.out⟩, ⟨rfl⟩⟩
                  | false =>
                    rw [hs] at HSu
                    clear hs
                    go_upto_region 25 with (fail)
                    refine start_ (n := 13) (S := fun w' => w'.cell? (af.add j) = some (.int .i64 x) ∧ w'.cell? (ar.add i) = some (.int .i64 y)) (ds := []) #[false, false, false, false, false, false, false, false, false, false, false, false, false] (by kernel_rfl) rfl rfl ⟨hf, hr⟩ (fun hHeld => ?_)
                    refine pure_ (i := 0) (N := some 105) (v := ?_) (a' := ?_) #[true, false, false, false, false, false, false, false, false, false, false, false, false] rfl rfl (by kernel_rfl) (fun _ _ _ h => h) (Or.inl ⟨by rfl, ?_⟩) ?_ ?_
                    rotate_left
                    · intro w'
                      go_simp
                      with_reducible rfl
                    rotate_left
                    · simp only [Act.put, List.setIfInBounds_toArray, List.set_cons_zero, List.set_cons_succ, i64_w, i32_w]
                      rfl
                    refine pure_ (i := 1) (N := some 106) (v := ?_) (a' := ?_) #[true, true, false, false, false, false, false, false, false, false, false, false, false] rfl rfl (by kernel_rfl) (fun _ _ _ h => h) (Or.inl ⟨by rfl, ?_⟩) ?_ ?_
                    rotate_left
                    · intro w'
                      go_simp
                      with_reducible rfl
                    rotate_left
                    · simp only [Act.put, List.setIfInBounds_toArray, List.set_cons_zero, List.set_cons_succ, i64_w, i32_w]
                      rfl
                    refine pure_ (i := 2) (N := some 107) (v := ?_) (a' := ?_) #[true, true, true, false, false, false, false, false, false, false, false, false, false] rfl rfl (by kernel_rfl) (fun _ _ _ h => h) (Or.inl ⟨by rfl, ?_⟩) ?_ ?_
                    rotate_left
                    · intro w'
                      go_simp
                      with_reducible rfl
                    rotate_left
                    · simp only [Act.put, List.setIfInBounds_toArray, List.set_cons_zero, List.set_cons_succ, i64_w, i32_w]
                      rfl
                    refine pure_ (i := 3) (N := some 108) (v := ?_) (a' := ?_) #[true, true, true, true, false, false, false, false, false, false, false, false, false] rfl rfl (by kernel_rfl) (fun _ _ _ h => h) (Or.inl ⟨by rfl, ?_⟩) ?_ ?_
                    rotate_left
                    · intro w'
                      go_simp
                      with_reducible rfl
                    rotate_left
                    · simp only [Act.put, List.setIfInBounds_toArray, List.set_cons_zero, List.set_cons_succ, i64_w, i32_w]
                      rfl
                    refine pure_ (i := 4) (N := some 109) (v := ?_) (a' := ?_) #[true, true, true, true, true, false, false, false, false, false, false, false, false] rfl rfl (by kernel_rfl) (fun _ _ _ h => h) (Or.inl ⟨by rfl, ?_⟩) ?_ ?_
                    rotate_left
                    · intro w'
                      go_simp
                      with_reducible rfl
                    rotate_left
                    · simp only [Act.put, List.setIfInBounds_toArray, List.set_cons_zero, List.set_cons_succ, i64_w, i32_w]
                      rfl
                    refine pure_ (i := 6) (N := some 111) (v := ?_) (a' := ?_) #[true, true, true, true, true, false, true, false, false, false, false, false, false] rfl rfl (by kernel_rfl) (fun _ _ _ h => h) (Or.inl ⟨by rfl, ?_⟩) ?_ ?_
                    rotate_left
                    · intro w'
                      go_simp
                      with_reducible rfl
                    rotate_left
                    · simp only [Act.put, List.setIfInBounds_toArray, List.set_cons_zero, List.set_cons_succ, i64_w, i32_w]
                      rfl
                    refine pure_ (i := 7) (N := some 112) (v := ?_) (a' := ?_) #[true, true, true, true, true, false, true, true, false, false, false, false, false] rfl rfl (by kernel_rfl) (fun _ _ _ h => h) (Or.inl ⟨by rfl, ?_⟩) ?_ ?_
                    rotate_left
                    · intro w'
                      go_simp
                      with_reducible rfl
                    rotate_left
                    · simp only [Act.put, List.setIfInBounds_toArray, List.set_cons_zero, List.set_cons_succ, i64_w, i32_w]
                      rfl
                    refine pure_ (i := 8) (N := some 113) (v := ?_) (a' := ?_) #[true, true, true, true, true, false, true, true, true, false, false, false, false] rfl rfl (by kernel_rfl) (fun _ _ _ h => h) (Or.inl ⟨by rfl, ?_⟩) ?_ ?_
                    rotate_left
                    · intro w'
                      go_simp
                      with_reducible rfl
                    rotate_left
                    · simp only [Act.put, List.setIfInBounds_toArray, List.set_cons_zero, List.set_cons_succ, i64_w, i32_w]
                      rfl
                    refine take_ (i := 5) (N := some 110) (v := ?_) (a' := ?_) #[true, true, true, true, true, true, true, true, true, false, false, false, false] rfl rfl (by kernel_rfl) (fun _ _ _ h => h) (Or.inl ⟨by rfl, ?_⟩) hHeld ?_ ?_
                    rotate_left
                    · rintro w' ⟨s0, s1⟩
                      go_simp
                      with_reducible rfl
                    rotate_left
                    · simp only [Act.put, List.setIfInBounds_toArray, List.set_cons_zero, List.set_cons_succ, i64_w, i32_w]
                      rfl
                    refine take_ (i := 9) (N := some 114) (v := ?_) (a' := ?_) #[true, true, true, true, true, true, true, true, true, true, false, false, false] rfl rfl (by kernel_rfl) (fun _ _ _ h => h) (Or.inl ⟨by rfl, ?_⟩) hHeld ?_ ?_
                    rotate_left
                    · rintro w' ⟨s0, s1⟩
                      go_simp
                      with_reducible rfl
                    rotate_left
                    · simp only [Act.put, List.setIfInBounds_toArray, List.set_cons_zero, List.set_cons_succ, i64_w, i32_w]
                      rfl
                    refine pure_ (i := 10) (N := some 115) (v := ?_) (a' := ?_) #[true, true, true, true, true, true, true, true, true, true, true, false, false] rfl rfl (by kernel_rfl) (fun _ _ _ h => h) (Or.inl ⟨by rfl, ?_⟩) ?_ ?_
                    rotate_left
                    · intro w'
                      go_simp
                      with_reducible rfl
                    rotate_left
                    · simp only [Act.put, List.setIfInBounds_toArray, List.set_cons_zero, List.set_cons_succ, i64_w, i32_w]
                      rfl
                    refine pure_ (i := 11) (N := some 116) (v := ?_) (a' := ?_) #[true, true, true, true, true, true, true, true, true, true, true, true, false] rfl rfl (by kernel_rfl) (fun _ _ _ h => h) (Or.inl ⟨by rfl, ?_⟩) ?_ ?_
                    rotate_left
                    · intro w'
                      go_simp
                      with_reducible rfl
                    rotate_left
                    · simp only [Act.put, List.setIfInBounds_toArray, List.set_cons_zero, List.set_cons_succ, i64_w, i32_w]
                      rfl
                    refine pure_ (i := 12) (N := some 11) (v := ?_) (a' := ?_) #[true, true, true, true, true, true, true, true, true, true, true, true, true] rfl rfl (by kernel_rfl) (fun _ _ _ h => h) (Or.inl ⟨by rfl, ?_⟩) ?_ ?_
                    rotate_left
                    · intro w'
                      go_simp
                      with_reducible rfl
                    rotate_left
                    · simp only [Act.put, List.setIfInBounds_toArray, List.set_cons_zero, List.set_cons_succ, i64_w, i32_w]
                      rfl
                    refine done_ (by kernel_rfl) ?_
                    have HR4 := Aside0.mk HRt.out.drewN
                    go_wp2
                    go_roundg (fs.length - (j + 1))
                    case measure => have := HQj.out; have := HJ2.out; omega
                    case rel => exact ⟨j + 1, by simp, by rw [HSu.out]; rfl, ⟨by have := HJ2.out; omega⟩, ⟨HR4.out⟩, ⟨rfl⟩⟩
                · have c6b : decide ((j : Int) < (fs.length : Int)) = false := decide_eq_false (by omega)
                  have c7b : decide (j < fs.length) = false := decide_eq_false hj
                  have ej : j = fs.length := by have := HJ.out; omega
                  subst ej
                  generalize seenF fs y fs.length = bA at HSr ⊢
                  clear hj HJ HQj
                  go_wp2
                  go_loopg [11, 13] i (fun kq v11 v13 w' => ∃ j : Nat, v13 = .int .i64 j ∧ v11 = .bool (bA || seenP M rs y j) ∧ Aside0 (j ≤ i) ∧ Aside0 (RAt w g v bs M n Af fs (some ar) rs w') ∧ Aside0 (kq = i - j))
                  case atStart => exact ⟨0, rfl, by rw [show seenP M rs y 0 = false from rfl, Bool.or_false], ⟨by omega⟩, ⟨HRt.out⟩, ⟨rfl⟩⟩
                  case round =>
                    clear HRt
                    obtain ⟨j, rfl, rfl, HJ, HRt, HQj⟩ := hrel
                    by_cases hj : j < i
                    · have c6b : decide ((j : Int) < (i : Int)) = true := decide_eq_true (by omega)
                      have c7b : decide (j < i) = true := decide_eq_true hj
                      have hjr : j < rs.length := by have := HI2.out; omega
                      have p1 : (0 ≤ (j : Int)) = True := eq_true (by omega)
                      have r0 : ((j : Int) < (rs.length : Int)) = True := eq_true (by omega)
                      have r1 : (j < rs.length) = True := eq_true hjr
                      have hj9 : IntKind.i64.wrap ((j : Int) + 1) = ((j + 1 : Nat) : Int) := by have := HRl.out; rw [i64_w, w64 (by omega) (by omega)]; omega
                      have hf := HRj.out wr HRt.out j hjr
                      have hr := HRi.out wr HRt.out
                      have HJ2 := Aside0.mk hj
                      have HRx := Aside0.mk (fun W h => HRj.out W h j hjr)
                      have HSu := Aside0.mk (seenP_succ M y hjr)
                      have hne := HNe.out j hj
                      have HXd := Aside0.mk (HOk.out.ids j hjr)
                      clear hj hjr
                      generalize rd rs (j : Int) = x at hf HSu hne HRx HXd
                      generalize hbB : (bA || seenP M rs y j) = bB
                      have HSu2 := Aside0.mk (show (bA || seenP M rs y (j + 1)) = (bB || ptsB M x y 16) by rw [HSu.out, ← Bool.or_assoc, hbB])
                      clear hbB HSu
                      go_upto_region 29 with (fail)
                      refine start_ (n := 9) (S := fun w' => w'.cell? (ar.add j) = some (.int .i64 x) ∧ w'.cell? (ar.add i) = some (.int .i64 y)) (ds := []) #[false, false, false, false, false, false, false, false, false] (by kernel_rfl) rfl rfl ⟨hf, hr⟩ (fun hHeld => ?_)
                      refine pure_ (i := 0) (N := some 122) (v := ?_) (a' := ?_) #[true, false, false, false, false, false, false, false, false] rfl rfl (by kernel_rfl) (fun _ _ _ h => h) (Or.inl ⟨by rfl, ?_⟩) ?_ ?_
                      rotate_left
                      · intro w'
                        go_simp
                        with_reducible rfl
                      rotate_left
                      · simp only [Act.put, List.setIfInBounds_toArray, List.set_cons_zero, List.set_cons_succ, i64_w, i32_w]
                        rfl
                      refine pure_ (i := 1) (N := some 123) (v := ?_) (a' := ?_) #[true, true, false, false, false, false, false, false, false] rfl rfl (by kernel_rfl) (fun _ _ _ h => h) (Or.inl ⟨by rfl, ?_⟩) ?_ ?_
                      rotate_left
                      · intro w'
                        go_simp
                        with_reducible rfl
                      rotate_left
                      · simp only [Act.put, List.setIfInBounds_toArray, List.set_cons_zero, List.set_cons_succ, i64_w, i32_w]
                        rfl
                      refine pure_ (i := 2) (N := some 124) (v := ?_) (a' := ?_) #[true, true, true, false, false, false, false, false, false] rfl rfl (by kernel_rfl) (fun _ _ _ h => h) (Or.inl ⟨by rfl, ?_⟩) ?_ ?_
                      rotate_left
                      · intro w'
                        go_simp
                        with_reducible rfl
                      rotate_left
                      · simp only [Act.put, List.setIfInBounds_toArray, List.set_cons_zero, List.set_cons_succ, i64_w, i32_w]
                        rfl
                      refine pure_ (i := 4) (N := some 126) (v := ?_) (a' := ?_) #[true, true, true, false, true, false, false, false, false] rfl rfl (by kernel_rfl) (fun _ _ _ h => h) (Or.inl ⟨by rfl, ?_⟩) ?_ ?_
                      rotate_left
                      · intro w'
                        go_simp
                        with_reducible rfl
                      rotate_left
                      · simp only [Act.put, List.setIfInBounds_toArray, List.set_cons_zero, List.set_cons_succ, i64_w, i32_w]
                        rfl
                      refine pure_ (i := 5) (N := some 127) (v := ?_) (a' := ?_) #[true, true, true, false, true, true, false, false, false] rfl rfl (by kernel_rfl) (fun _ _ _ h => h) (Or.inl ⟨by rfl, ?_⟩) ?_ ?_
                      rotate_left
                      · intro w'
                        go_simp
                        with_reducible rfl
                      rotate_left
                      · simp only [Act.put, List.setIfInBounds_toArray, List.set_cons_zero, List.set_cons_succ, i64_w, i32_w]
                        rfl
                      refine pure_ (i := 6) (N := some 128) (v := ?_) (a' := ?_) #[true, true, true, false, true, true, true, false, false] rfl rfl (by kernel_rfl) (fun _ _ _ h => h) (Or.inl ⟨by rfl, ?_⟩) ?_ ?_
                      rotate_left
                      · intro w'
                        go_simp
                        with_reducible rfl
                      rotate_left
                      · simp only [Act.put, List.setIfInBounds_toArray, List.set_cons_zero, List.set_cons_succ, i64_w, i32_w]
                        rfl
                      refine take_ (i := 3) (N := some 125) (v := ?_) (a' := ?_) #[true, true, true, true, true, true, true, false, false] rfl rfl (by kernel_rfl) (fun _ _ _ h => h) (Or.inl ⟨by rfl, ?_⟩) hHeld ?_ ?_
                      rotate_left
                      · rintro w' ⟨s0, s1⟩
                        go_simp
                        with_reducible rfl
                      rotate_left
                      · simp only [Act.put, List.setIfInBounds_toArray, List.set_cons_zero, List.set_cons_succ, i64_w, i32_w]
                        rfl
                      refine take_ (i := 7) (N := some 129) (v := ?_) (a' := ?_) #[true, true, true, true, true, true, true, true, false] rfl rfl (by kernel_rfl) (fun _ _ _ h => h) (Or.inl ⟨by rfl, ?_⟩) hHeld ?_ ?_
                      rotate_left
                      · rintro w' ⟨s0, s1⟩
                        go_simp
                        with_reducible rfl
                      rotate_left
                      · simp only [Act.put, List.setIfInBounds_toArray, List.set_cons_zero, List.set_cons_succ, i64_w, i32_w]
                        rfl
                      refine pure_ (i := 8) (N := some 130) (v := ?_) (a' := ?_) #[true, true, true, true, true, true, true, true, true] rfl rfl (by kernel_rfl) (fun _ _ _ h => h) (Or.inl ⟨by rfl, ?_⟩) ?_ ?_
                      rotate_left
                      · intro w'
                        go_simp
                        with_reducible rfl
                      rotate_left
                      · simp only [Act.put, List.setIfInBounds_toArray, List.set_cons_zero, List.set_cons_succ, i64_w, i32_w]
                        rfl
                      refine done_ (by kernel_rfl) ?_
                      have HR4 := Aside0.mk HRt.out.drewN
                      clear hne hf hr
                      go_wp2
                      go_loopg [11, 14] 16 (fun kq v11 v14 w' => ∃ s : Nat, v14 = .int .i64 s ∧ v11 = .bool (bB || ptsB M x y s) ∧ Aside0 (s ≤ 16) ∧ Aside0 (RAt w g v bs M n Af fs (some ar) rs w') ∧ Aside0 (kq = 16 - s))
                      case atStart => exact ⟨0, rfl, by rw [show ptsB M x y 0 = false from rfl, Bool.or_false], ⟨by omega⟩, ⟨HR4.out⟩, ⟨rfl⟩⟩
                      case round =>
                        clear HR4 HRt
                        obtain ⟨s, rfl, rfl, HS, HRt, HQs⟩ := hrel
                        by_cases hs : s < 16
                        · have c8b : decide ((s : Int) < 16) = true := decide_eq_true (by omega)
                          have c9b : decide (s < 16) = true := decide_eq_true hs
                          have hs9 : IntKind.i64.wrap ((s : Int) + 1) = ((s + 1 : Nat) : Int) := by rw [i64_w, w64 (by omega) (by omega)]; omega
                          have HS2 := Aside0.mk hs
                          have HPs := Aside0.mk (ptsB_succ M x y s)
                          have hf := HRx.out wr HRt.out
                          have hLd := pool_Load.calls x (s : Int) true (by have := HXd.out; omega) wr HRt.out.pool
                          have HLd := Aside0.mk hLd
                          clear hs hLd
                          generalize hbC : (bB || ptsB M x y s) = bC
                          have HPt := Aside0.mk (show (bB || ptsB M x y (s + 1)) = (bC || (decide (trapP M x (s : Int) true = 0) && (loadP M x (s : Int) true == y))) by rw [HPs.out, ← Bool.or_assoc, hbC])
                          clear hbC HPs
                          generalize trapP M x (s : Int) true = tt at HPt HLd
                          generalize loadP M x (s : Int) true = ll at HPt HLd
                          go_wp2_with fail
                          refine HLd.out.mono ?_
                          rintro e w4 ⟨rfl, hb4⟩
                          have HR4 := Aside0.mk (HRt.out.below hb4)
                          have hr4 := HRi.out w4 HR4.out
                          clear hb4 HLd hf
                          by_cases ht : tt = 0
                          · have tb : (tt == 0) = true := beq_iff_eq.mpr ht
                            have hd : decide (tt = 0) = true := decide_eq_true ht
                            rw [hd] at HPt
                            clear ht hd
                            cases hl : (ll == y) with
                            | true =>
                              rw [hl] at HPt
                              go_wp2
                              go_roundg (16 - (s + 1))
                              case measure => have := HQs.out; have := HS2.out; omega
                              case rel => exact ⟨s + 1, by simp, by rw [HPt.out]; simp, ⟨by have := HS2.out; omega⟩, ⟨HR4.out⟩, ⟨rfl⟩⟩
                            | false =>
                              rw [hl] at HPt
                              go_wp2
                              go_roundg (16 - (s + 1))
                              case measure => have := HQs.out; have := HS2.out; omega
                              case rel => exact ⟨s + 1, by simp, by rw [HPt.out]; simp, ⟨by have := HS2.out; omega⟩, ⟨HR4.out⟩, ⟨rfl⟩⟩
                          · have tb : (tt == 0) = false := beq_eq_false_iff_ne.mpr ht
                            have hd : decide (tt = 0) = false := decide_eq_false ht
                            rw [hd] at HPt
                            clear ht hd
                            go_wp2
                            go_roundg (16 - (s + 1))
                            case measure => have := HQs.out; have := HS2.out; omega
                            case rel => exact ⟨s + 1, by simp, by rw [HPt.out]; simp, ⟨by have := HS2.out; omega⟩, ⟨HR4.out⟩, ⟨rfl⟩⟩
                        · have c8b : decide ((s : Int) < 16) = false := decide_eq_false (by omega)
                          have c9b : decide (s < 16) = false := decide_eq_false hs
                          have es : s = 16 := by have := HS.out; omega
                          subst es
                          clear hs
                          go_wp2
                          go_roundg (i - (j + 1))
                          case measure => have := HQj.out; have := HJ2.out; omega
                          case rel => exact ⟨j + 1, by simp, by rw [HSu2.out], ⟨by have := HJ2.out; omega⟩, ⟨HRt.out⟩, ⟨rfl⟩⟩
                    · have c6b : decide ((j : Int) < (i : Int)) = false := decide_eq_false (by omega)
                      have c7b : decide (j < i) = false := decide_eq_false hj
                      have ej : j = i := by have := HJ.out; omega
                      subst ej
                      rw [HSr.out]
                      clear hj HJ HQj
                      go_wp2
                      go_loopg [17] 16 (fun kq v17 w' => ∃ s : Nat, v17 = .int .i64 s ∧ Aside0 (s ≤ 16) ∧ Aside0 (RAt w g v bs M n Af fs (some ar) rs w') ∧ Aside0 (kq = 16 - s))
                      case atStart => exact ⟨0, rfl, ⟨by omega⟩, ⟨HRt.out⟩, ⟨rfl⟩⟩
                      case round =>
                        clear HRt
                        obtain ⟨s, rfl, HS, HRt, HQs⟩ := hrel
                        by_cases hs : s < 16
                        · have c8b : decide ((s : Int) < 16) = true := decide_eq_true (by omega)
                          have c9b : decide (s < 16) = true := decide_eq_true hs
                          have hs9 : IntKind.i64.wrap ((s : Int) + 1) = ((s + 1 : Nat) : Int) := by rw [i64_w, w64 (by omega) (by omega)]; omega
                          have HS2 := Aside0.mk hs
                          have hf := HRi.out wr HRt.out
                          have hLd := pool_Load.calls y (s : Int) true (by have := HId.out; omega) wr HRt.out.pool
                          have HLd := Aside0.mk hLd
                          have HIs := Aside0.mk (HIn.out s hs)
                          clear hs hLd
                          generalize trapP M y (s : Int) true = tt at HIs HLd
                          generalize loadP M y (s : Int) true = ll at HIs HLd
                          go_wp2_with fail
                          refine HLd.out.mono ?_
                          rintro e w4 ⟨rfl, hb4⟩
                          have HR4 := Aside0.mk (HRt.out.below hb4)
                          clear hb4 HLd hf
                          by_cases ht : tt = 0
                          · have tb : (tt != 0) = false := by simp [ht]
                            by_cases h1 : ll < 1
                            · have l1b : decide (ll < 1) = true := decide_eq_true h1
                              clear ht h1
                              go_wp2
                              go_roundg (16 - (s + 1))
                              case measure => have := HQs.out; have := HS2.out; omega
                              case rel => exact ⟨s + 1, by simp, ⟨by have := HS2.out; omega⟩, ⟨HR4.out⟩, ⟨rfl⟩⟩
                            · have l1b : decide (ll < 1) = false := decide_eq_false h1
                              by_cases h2 : (M.length : Int) < ll
                              · have l2b : decide ((M.length : Int) < ll) = true := decide_eq_true h2
                                clear ht h1 h2
                                go_wp2_with (go_at_call 19; refine (pool_Len.calls _ HR4.out.pool).mono ?_; rintro e w5 ⟨rfl, rfl⟩)
                                go_roundg (16 - (s + 1))
                                case measure => have := HQs.out; have := HS2.out; omega
                                case rel => exact ⟨s + 1, by simp, ⟨by have := HS2.out; omega⟩, ⟨HR4.out⟩, ⟨rfl⟩⟩
                              · have l2b : decide ((M.length : Int) < ll) = false := decide_eq_false h2
                                have HSe := Aside0.mk (HIs.out ht (by omega) (by omega))
                                clear ht h1 h2 HIs
                                go_wp2_with (go_at_call 19; refine (pool_Len.calls _ HR4.out.pool).mono ?_; rintro e w5 ⟨rfl, rfl⟩)
                                go_loopg [20, 21] rs.length (fun kq v20 v21 w' => ∃ j : Nat, v21 = .int .i64 j ∧ v20 = .bool (seenF rs ll j) ∧ Aside0 (j ≤ rs.length) ∧ Aside0 (RAt w g v bs M n Af fs (some ar) rs w') ∧ Aside0 (kq = rs.length - j))
                                case atStart => exact ⟨0, rfl, rfl, ⟨by omega⟩, ⟨HR4.out⟩, ⟨rfl⟩⟩
                                case round =>
                                  clear HRt HR4
                                  obtain ⟨q, rfl, rfl, HJ, HRt, HQj⟩ := hrel
                                  by_cases hj : q < rs.length
                                  · have c6b : decide ((q : Int) < (rs.length : Int)) = true := decide_eq_true (by omega)
                                    have c7b : decide (q < rs.length) = true := decide_eq_true hj
                                    have p1 : (0 ≤ (q : Int)) = True := eq_true (by omega)
                                    have r0 : ((q : Int) < (rs.length : Int)) = True := eq_true (by omega)
                                    have r1 : (q < rs.length) = True := eq_true hj
                                    have hj9 : IntKind.i64.wrap ((q : Int) + 1) = ((q + 1 : Nat) : Int) := by have := HRl.out; rw [i64_w, w64 (by omega) (by omega)]; omega
                                    have hf := HRj.out wr HRt.out q hj
                                    have HJ2 := Aside0.mk hj
                                    have HSu := Aside0.mk (seenF_succ ll hj)
                                    clear hj
                                    generalize rd rs (q : Int) = x at hf HSu
                                    cases hsf : seenF rs ll q with
                                    | true =>
                                      rw [hsf] at HSu
                                      clear hsf
                                      go_wp2
                                      go_roundg (rs.length - (q + 1))
                                      case measure => have := HQj.out; have := HJ2.out; omega
                                      case rel => exact ⟨q + 1, by simp, by rw [HSu.out]; rfl, ⟨by have := HJ2.out; omega⟩, ⟨HRt.out⟩, ⟨rfl⟩⟩
                                    | false =>
                                      rw [hsf] at HSu
                                      clear hsf
                                      go_wp2
                                      go_roundg (rs.length - (q + 1))
                                      case measure => have := HQj.out; have := HJ2.out; omega
                                      case rel => exact ⟨q + 1, by simp, by rw [HSu.out]; rfl, ⟨by have := HJ2.out; omega⟩, ⟨HRt.out⟩, ⟨rfl⟩⟩
                                  · have c6b : decide ((q : Int) < (rs.length : Int)) = false := decide_eq_false (by omega)
                                    have c7b : decide (q < rs.length) = false := decide_eq_false hj
                                    have ej : q = rs.length := by have := HJ.out; omega
                                    subst ej
                                    rw [HSe.out]
                                    clear hj HJ HQj
                                    go_wp2
                                    go_roundg (16 - (s + 1))
                                    case measure => have := HQs.out; have := HS2.out; omega
                                    case rel => exact ⟨s + 1, by simp, ⟨by have := HS2.out; omega⟩, ⟨HRt.out⟩, ⟨rfl⟩⟩
                          · have tb : (tt != 0) = true := by simp [ht]
                            clear ht
                            go_wp2
                            go_roundg (16 - (s + 1))
                            case measure => have := HQs.out; have := HS2.out; omega
                            case rel => exact ⟨s + 1, by simp, ⟨by have := HS2.out; omega⟩, ⟨HR4.out⟩, ⟨rfl⟩⟩
                        · have c8b : decide ((s : Int) < 16) = false := decide_eq_false (by omega)
                          have c9b : decide (s < 16) = false := decide_eq_false hs
                          clear hs
                          go_wp2
                          go_roundg (rs.length - (j + 1))
                          case measure => have := HQ.out; have := HI2.out; omega
                          case rel => exact ⟨j + 1, by simp, ⟨by have := HI2.out; omega⟩, ⟨HRt.out⟩, ⟨rfl⟩⟩
            · have c4b : decide ((i : Int) < (rs.length : Int)) = false := decide_eq_false (by omega)
              have c5b : decide (i < rs.length) = false := decide_eq_false hi
              clear hi
              go_wp2_with fail
              refine (pool_works.calls _).mono ?_
              rintro e w5 ⟨rfl, hb5⟩
              have HB5 := Aside0.mk (below_step HRt.out.bel hb5)
              clear hb5
              go_wp2
              go_ret
              exact ⟨rfl, HB5.out⟩
end Go.Proofs.Ytcpomchijogblaa.PPo
