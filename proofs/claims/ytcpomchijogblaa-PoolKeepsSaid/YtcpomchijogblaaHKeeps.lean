/- The law PoolKeeps, walked. -/
import Derived.Test.YtcpomchijogblaaHActs
namespace Go.Proofs.Ytcpomchijogblaa.PPo
open Go.RowKit Go.Proofs.YtcpomchijogblaaW.PrintWords Go.Proofs.YtcpomchijogblaaW.PrintLast Go.Proofs.YtcpomchijogblaaW.PrintMore Go.Proofs.Ytcpomchijogblaa.Str
set_option linter.unusedVariables false
set_option linter.unusedSimpArgs false

def turntablelaw12_PoolKeeps.f (k : Nat) (a0 : List S25) (b0 b1 b2 : Int) (b3 : Bool) (b4 b5 a2 a3 : Int) : Option Bool :=
  if 60 < a0.length then some true else if -9223372036854775808 ≤ b1 ∧ -9223372036854775808 ≤ a2 then
    (actsP k false a0 []).bind fun L => (turntableref03_Pointer.f k (shapeP L a2).f0 (shapeP L a2).f1 a3).bind fun _ => some true else none

set_option maxHeartbeats 8000000 in
set_option maxRecDepth 100000 in
theorem turntablelaw12_PoolKeeps.calls (k : Nat) (A0 : Option Addr) (c0 : Nat) (a0 : List S25) (b0 b1 b2 : Int) (b3 : Bool) (b4 b5 a2 a3 : Int) (r : Bool) (w : World) (C0 : Kd.C k25 w A0 a0.length a0) (l0 : a0.length ≤ c0)
    (h : turntablelaw12_PoolKeeps.f k a0 b0 b1 b2 b3 b4 b5 a2 a3 = some r) :
    Calls Try.prog 3 #[.slice A0 a0.length c0, .agg #[.int .i64 b0, .int .i64 b1, .int .i64 b2, .bool b3, .int .i64 b4, .int .u16 b5], .int .i64 a2, .int .i64 a3] w fun e w' => e = .returned (.bool r) ∧ Below w.heap.size w w' := by
  have hu25 := Try.underlying25
  have hu31 := Try.underlying31
  have hu27 := Try.underlying27
  unfold turntablelaw12_PoolKeeps.f at h
  have HC := Aside0.mk C0
  by_cases h60 : 60 < a0.length
  · rw [if_pos h60] at h
    obtain rfl := Option.some.inj h
    have d60 : decide (60 < a0.length) = true := decide_eq_true h60
    have d61 : decide ((60 : Int) < (a0.length : Int)) = true := decide_eq_true (by omega)
    clear h h60 C0 l0
    go_enter Try.func3, Try.ntmps3
    go_wp2_with fail
    refine (pool_works.calls _).mono ?_
    rintro e w1 ⟨rfl, hb⟩
    have HB := Aside0.mk (below_step (below_alloc (Below.refl _ w) _) hb)
    clear hb
    go_wp2
    go_ret
    exact ⟨rfl, HB.out⟩
  · rw [if_neg h60] at h
    have d60 : decide (60 < a0.length) = false := decide_eq_false h60
    have d61 : decide ((60 : Int) < (a0.length : Int)) = false := decide_eq_false (by omega)
    by_cases hg : -9223372036854775808 ≤ b1 ∧ -9223372036854775808 ≤ a2
    rotate_left
    · rw [if_neg hg] at h
      cases h
    rw [if_pos hg] at h
    obtain ⟨Lend, hacts, h⟩ := Option.bind_eq_some_iff.mp h
    obtain ⟨kd, hkd, h⟩ := Option.bind_eq_some_iff.mp h
    obtain rfl := Option.some.inj h
    have HA := Aside0.mk hacts
    have HK := Aside0.mk hkd
    have HG := Aside0.mk hg
    have H60 := Aside0.mk h60
    clear h hg hacts hkd h60 C0 l0
    go_enter Try.func3, Try.ntmps3
    have hbox := blk_new w (.cells #[.int .i64 b0, .int .i64 b1, .int .i64 b2, .bool b3, .int .i64 b4, .int .u16 b5] 25)
    have hbx := below_alloc (Below.refl w.heap.size w) (.cells #[.int .i64 b0, .int .i64 b1, .int .i64 b2, .bool b3, .int .i64 b4, .int .u16 b5] 25)
    have HBox := Aside0.mk hbox
    have HBx := Aside0.mk hbx
    clear hbox hbx
    go_wp2_with fail
    generalize w.alloc (.cells #[.int .i64 b0, .int .i64 b1, .int .i64 b2, .bool b3, .int .i64 b4, .int .u16 b5] 25) = w0 at HBox HBx ⊢
    have HC0 := Aside0.mk (Kd.C_below HC.out HBx.out)
    refine (pool_New.calls _).mono ?_
    rintro e w1 ⟨g, rfl, hp1, hb1⟩
    have HP1 := Aside0.mk (show ActsAt w0 g k false a0 Lend 0 w1 from ⟨[], 0, _, _, hp1, hb1, HA.out, by simp, by simp⟩)
    clear hp1 hb1
    go_wp2
    go_loopg [10] a0.length (fun kq v10 w' => ∃ i : Nat, v10 = .int .i64 i ∧ Aside0 (i ≤ a0.length) ∧ Aside0 (ActsAt w0 g k false a0 Lend i w') ∧ Aside0 (kq = a0.length - i))
    case atStart => exact ⟨0, rfl, ⟨by omega⟩, ⟨HP1.out⟩, ⟨rfl⟩⟩
    case round =>
      clear HP1
      obtain ⟨i, rfl, HI, HT, HQ⟩ := hrel
      by_cases hi : i < a0.length
      · have c0b : decide ((i : Int) < (a0.length : Int)) = true := decide_eq_true (by omega)
        have c1b : decide (i < a0.length) = true := decide_eq_true hi
        have p0 : (0 ≤ (i : Int)) = True := eq_true (by omega)
        have q0 : ((i : Int) < (a0.length : Int)) = True := eq_true (by omega)
        have q1 : (i < a0.length) = True := eq_true hi
        have hi9 : IntKind.i64.wrap ((i : Int) + 1) = ((i + 1 : Nat) : Int) := by have := H60.out; rw [i64_w, w64 (by omega) (by omega)]; omega
        have hat := fun W (hb : Below w0.heap.size w0 W) => at_T25 (Kd.C_below HC0.out hb) i (by omega) (by omega)
        obtain ⟨L, n, v, bs, hp, hb, ha, hl, hn⟩ := HT.out
        rw [List.drop_eq_getElem_cons hi] at ha
        have hrd : rd_T25 a0 i = a0[i] := by unfold rd_T25; rw [List.getD_eq_getElem?_getD, Int.toNat_natCast, List.getElem?_eq_getElem hi]; rfl
        rw [hrd] at hat
        generalize a0[i] = x at ha hat
        obtain ⟨ad, rfl, x0, x1, x2, x3, x4, x5⟩ := hat wr hb
        rw [Int.toNat_natCast] at x0 x1 x2 x3 x4 x5
        have HI2 := Aside0.mk hi
        have HL := Aside0.mk (show L.length ≤ 60 by have := H60.out; omega)
        have HN := Aside0.mk (show 0 ≤ n ∧ n ≤ 17 * (i : Int) ∧ i ≤ 60 by have := H60.out; omega)
        have HLi := Aside0.mk hl
        have HP := Aside0.mk hp
        have HB := Aside0.mk hb
        obtain ⟨L1, ha1, ha2⟩ := Option.bind_eq_some_iff.mp ha
        have HA2 := Aside0.mk ha2
        unfold actP at ha1
        clear hi hrd ha ha2 hp hb hl hn HT hat
        by_cases h0 : x.f0 = 0
        · rw [if_pos h0] at ha1
          have d0 : (x.f0 == 0) = true := beq_iff_eq.mpr h0
          obtain ⟨⟨q1_, q2_⟩, hsh, ha3⟩ := Option.bind_eq_some_iff.mp ha1
          by_cases hr : 0 ≤ q1_ ∧ q1_ ≤ 16
          rotate_left
          · rw [if_neg hr] at ha3
            cases ha3
          rw [if_pos hr] at ha3
          obtain rfl := Option.some.inj ha3
          have HR := Aside0.mk hr
          have HS := Aside0.mk hsh
          clear h0 ha1 ha3 hr hsh
          go_upto_region 10 with (fail)
          refine start_ (n := 13) (S := fun w' => w'.cell? ⟨(ad.add (i * 6)).block, (ad.add (i * 6)).off + 2, none⟩ = some (.int .i64 x.f2) ∧ w'.cell? ⟨(ad.add (i * 6)).block, (ad.add (i * 6)).off + 5, none⟩ = some (.int .u16 x.f5)) (ds := [12]) #[false, false, false, false, false, false, false, false, false, false, false, false, false] (by kernel_rfl) rfl rfl ⟨x2, x5⟩ (fun hHeld => ?_)
          refine pure_ (i := 0) (N := some 38) (v := ?_) (a' := ?_) #[true, false, false, false, false, false, false, false, false, false, false, false, false] rfl rfl (by kernel_rfl) (fun _ _ _ h => h) (Or.inl ⟨by rfl, ?_⟩) ?_ ?_
          rotate_left
          · intro w'
            go_simp
            with_reducible rfl
          rotate_left
          · simp only [Act.put, List.setIfInBounds_toArray, List.set_cons_zero, List.set_cons_succ, i64_w, i32_w]
            rfl
          refine pure_ (i := 1) (N := some 39) (v := ?_) (a' := ?_) #[true, true, false, false, false, false, false, false, false, false, false, false, false] rfl rfl (by kernel_rfl) (fun _ _ _ h => h) (Or.inl ⟨by rfl, ?_⟩) ?_ ?_
          rotate_left
          · intro w'
            go_simp
            with_reducible rfl
          rotate_left
          · simp only [Act.put, List.setIfInBounds_toArray, List.set_cons_zero, List.set_cons_succ, i64_w, i32_w]
            rfl
          refine pure_ (i := 2) (N := some 40) (v := ?_) (a' := ?_) #[true, true, true, false, false, false, false, false, false, false, false, false, false] rfl rfl (by kernel_rfl) (fun _ _ _ h => h) (Or.inl ⟨by rfl, ?_⟩) ?_ ?_
          rotate_left
          · intro w'
            go_simp
            with_reducible rfl
          rotate_left
          · simp only [Act.put, List.setIfInBounds_toArray, List.set_cons_zero, List.set_cons_succ, i64_w, i32_w]
            rfl
          refine pure_ (i := 3) (N := some 41) (v := ?_) (a' := ?_) #[true, true, true, true, false, false, false, false, false, false, false, false, false] rfl rfl (by kernel_rfl) (fun _ _ _ h => h) (Or.inl ⟨by rfl, ?_⟩) ?_ ?_
          rotate_left
          · intro w'
            go_simp
            with_reducible rfl
          rotate_left
          · simp only [Act.put, List.setIfInBounds_toArray, List.set_cons_zero, List.set_cons_succ, i64_w, i32_w]
            rfl
          refine pure_ (i := 4) (N := some 42) (v := ?_) (a' := ?_) #[true, true, true, true, true, false, false, false, false, false, false, false, false] rfl rfl (by kernel_rfl) (fun _ _ _ h => h) (Or.inl ⟨by rfl, ?_⟩) ?_ ?_
          rotate_left
          · intro w'
            go_simp
            with_reducible rfl
          rotate_left
          · simp only [Act.put, List.setIfInBounds_toArray, List.set_cons_zero, List.set_cons_succ, i64_w, i32_w]
            rfl
          refine pure_ (i := 6) (N := some 44) (v := ?_) (a' := ?_) #[true, true, true, true, true, false, true, false, false, false, false, false, false] rfl rfl (by kernel_rfl) (fun _ _ _ h => h) (Or.inl ⟨by rfl, ?_⟩) ?_ ?_
          rotate_left
          · intro w'
            go_simp
            with_reducible rfl
          rotate_left
          · simp only [Act.put, List.setIfInBounds_toArray, List.set_cons_zero, List.set_cons_succ, i64_w, i32_w]
            rfl
          refine pure_ (i := 7) (N := some 45) (v := ?_) (a' := ?_) #[true, true, true, true, true, false, true, true, false, false, false, false, false] rfl rfl (by kernel_rfl) (fun _ _ _ h => h) (Or.inl ⟨by rfl, ?_⟩) ?_ ?_
          rotate_left
          · intro w'
            go_simp
            with_reducible rfl
          rotate_left
          · simp only [Act.put, List.setIfInBounds_toArray, List.set_cons_zero, List.set_cons_succ, i64_w, i32_w]
            rfl
          refine pure_ (i := 8) (N := some 46) (v := ?_) (a' := ?_) #[true, true, true, true, true, false, true, true, true, false, false, false, false] rfl rfl (by kernel_rfl) (fun _ _ _ h => h) (Or.inl ⟨by rfl, ?_⟩) ?_ ?_
          rotate_left
          · intro w'
            go_simp
            with_reducible rfl
          rotate_left
          · simp only [Act.put, List.setIfInBounds_toArray, List.set_cons_zero, List.set_cons_succ, i64_w, i32_w]
            rfl
          refine pure_ (i := 9) (N := some 47) (v := ?_) (a' := ?_) #[true, true, true, true, true, false, true, true, true, true, false, false, false] rfl rfl (by kernel_rfl) (fun _ _ _ h => h) (Or.inl ⟨by rfl, ?_⟩) ?_ ?_
          rotate_left
          · intro w'
            go_simp
            with_reducible rfl
          rotate_left
          · simp only [Act.put, List.setIfInBounds_toArray, List.set_cons_zero, List.set_cons_succ, i64_w, i32_w]
            rfl
          refine take_ (i := 5) (N := some 43) (v := ?_) (a' := ?_) #[true, true, true, true, true, true, true, true, true, true, false, false, false] rfl rfl (by kernel_rfl) (fun _ _ _ h => h) (Or.inl ⟨by rfl, ?_⟩) hHeld ?_ ?_
          rotate_left
          · rintro w' ⟨s0, s1⟩
            go_simp
            with_reducible rfl
          rotate_left
          · simp only [Act.put, List.setIfInBounds_toArray, List.set_cons_zero, List.set_cons_succ, i64_w, i32_w]
            rfl
          refine take_ (i := 10) (N := some 48) (v := ?_) (a' := ?_) #[true, true, true, true, true, true, true, true, true, true, true, false, false] rfl rfl (by kernel_rfl) (fun _ _ _ h => h) (Or.inl ⟨by rfl, ?_⟩) hHeld ?_ ?_
          rotate_left
          · rintro w' ⟨s0, s1⟩
            go_simp
            with_reducible rfl
          rotate_left
          · simp only [Act.put, List.setIfInBounds_toArray, List.set_cons_zero, List.set_cons_succ, i64_w, i32_w]
            rfl
          refine one_ (i := 11) (N := some 49) #[true, true, true, true, true, true, true, true, true, true, true, true, false] rfl rfl (by kernel_rfl) (by decide) (fun K hK => ?_)
          refine goes_ Try.func13 (by kernel_rfl) rfl #[.int .i64 x.f2, .int .u16 x.f5] (by rfl) rfl rfl (by simp only [List.map_toArray, List.map_cons, List.map_nil]; rfl) ?_
          with_reducible refine (turntablelaw12_Shape.calls k x.f2 x.f5 q1_ q2_ _ HS.out).mono ?_
          rintro e w4 ⟨rfl, hb4⟩
          refine ⟨_, rfl, ?_⟩
          have x2b := pw_cell_below hb4 (show wr.drew.cell? _ = _ from x2)
          have x5b := pw_cell_below hb4 (show wr.drew.cell? _ = _ from x5)
          have HB4 := Aside0.mk (below_step (below_drew1 (Below.refl wr.heap.size wr)) hb4)
          clear hb4
          refine hK.out _ _ ⟨x2b, x5b⟩ (fun hHeld => ?_)
          clear hK K
          refine norm_ (a' := ?_) ?_ ?_
          rotate_left
          · show Act.put _ (some 49) _ = _
            simp only [Act.put, List.setIfInBounds_toArray, List.set_cons_zero, List.set_cons_succ, i64_w, i32_w]
            rfl
          refine last_ (i := 12) (N := some 50) #[true, true, true, true, true, true, true, true, true, true, true, true, true] rfl rfl (by kernel_rfl) (by decide) (fun K hK => ?_)
          refine goes_ Try.func12 (by kernel_rfl) rfl #[.pointer (some ⟨g, 0, none⟩), .agg #[.int .i64 q1_, .int .i64 q2_]] (by rfl) rfl rfl (by simp only [List.map_toArray, List.map_cons, List.map_nil]; rfl) ?_
          with_reducible refine (pool_Make.calls q1_ q2_ HR.out.1 HR.out.2 w4 (HP.out.below HB4.out) (fun k hk => Nat.le_trans (below_size HB.out) (Nat.le_trans (below_size HB4.out) hk)) (Nat.le_trans (below_size HB.out) (below_size HB4.out)) ⟨HN.out.1, by have := HN.out; omega⟩ (by have := HL.out; omega)).mono ?_
          rintro e w5 ⟨rfl, ⟨v5, b5, hp5⟩, hb5, -⟩
          refine ⟨_, rfl, ?_⟩
          have HT5 := Aside0.mk (show ActsAt w0 g k false a0 Lend (i + 1) w5 from ⟨_, _, v5, _, hp5, (below_step HB.out HB4.out).trans hb5, HA2.out, by rw [List.length_append]; have := HLi.out; simp; omega, by have := HN.out; have := HR.out; omega⟩)
          clear hp5 hb5
          refine hK.out _ _ ?_
          clear hK K
          refine norm_ (a' := ?_) ?_ ?_
          rotate_left
          · show Act.put _ (some 50) _ = _
            simp only [Act.put, List.setIfInBounds_toArray, List.set_cons_zero, List.set_cons_succ, i64_w, i32_w]
            rfl
          refine done_ (by kernel_rfl) ?_
          go_wp2
          go_roundg (a0.length - (i + 1))
          case measure => have := HQ.out; have := HI2.out; omega
          case rel => exact ⟨i + 1, by simp, ⟨by have := HI2.out; omega⟩, ⟨HT5.out⟩, ⟨rfl⟩⟩
        · rw [if_neg h0] at ha1
          have d0 : (x.f0 == 0) = false := beq_eq_false_iff_ne.mpr h0
          by_cases hr : -9223372036854775808 ≤ x.f1
          rotate_left
          · rw [if_neg hr] at ha1
            cases ha1
          rw [if_pos hr] at ha1
          obtain rfl := Option.some.inj ha1
          have HR := Aside0.mk hr
          clear h0 ha1 hr
          go_upto_region 11 with (fail)
          refine start_ (n := 22) (S := fun w' => w'.cell? ⟨(ad.add (i * 6)).block, (ad.add (i * 6)).off + 1, none⟩ = some (.int .i64 x.f1) ∧ w'.cell? ⟨(ad.add (i * 6)).block, (ad.add (i * 6)).off + 2, none⟩ = some (.int .i64 x.f2) ∧ w'.cell? ⟨(ad.add (i * 6)).block, (ad.add (i * 6)).off + 3, none⟩ = some (.bool x.f3) ∧ w'.cell? ⟨(ad.add (i * 6)).block, (ad.add (i * 6)).off + 4, none⟩ = some (.int .i64 x.f4)) (ds := [21]) #[false, false, false, false, false, false, false, false, false, false, false, false, false, false, false, false, false, false, false, false, false, false] (by kernel_rfl) rfl rfl ⟨x1, x2, x3, x4⟩ (fun hHeld => ?_)
          refine pure_ (i := 0) (N := some 51) (v := ?_) (a' := ?_) #[true, false, false, false, false, false, false, false, false, false, false, false, false, false, false, false, false, false, false, false, false, false] rfl rfl (by kernel_rfl) (fun _ _ _ h => h) (Or.inl ⟨by rfl, ?_⟩) ?_ ?_
          rotate_left
          · intro w'
            go_simp
            with_reducible rfl
          rotate_left
          · simp only [Act.put, List.setIfInBounds_toArray, List.set_cons_zero, List.set_cons_succ, i64_w, i32_w]
            rfl
          refine pure_ (i := 1) (N := some 52) (v := ?_) (a' := ?_) #[true, true, false, false, false, false, false, false, false, false, false, false, false, false, false, false, false, false, false, false, false, false] rfl rfl (by kernel_rfl) (fun _ _ _ h => h) (Or.inl ⟨by rfl, ?_⟩) ?_ ?_
          rotate_left
          · intro w'
            go_simp
            with_reducible rfl
          rotate_left
          · simp only [Act.put, List.setIfInBounds_toArray, List.set_cons_zero, List.set_cons_succ, i64_w, i32_w]
            rfl
          refine pure_ (i := 2) (N := some 53) (v := ?_) (a' := ?_) #[true, true, true, false, false, false, false, false, false, false, false, false, false, false, false, false, false, false, false, false, false, false] rfl rfl (by kernel_rfl) (fun _ _ _ h => h) (Or.inl ⟨by rfl, ?_⟩) ?_ ?_
          rotate_left
          · intro w'
            go_simp
            with_reducible rfl
          rotate_left
          · simp only [Act.put, List.setIfInBounds_toArray, List.set_cons_zero, List.set_cons_succ, i64_w, i32_w]
            rfl
          refine pure_ (i := 3) (N := some 54) (v := ?_) (a' := ?_) #[true, true, true, true, false, false, false, false, false, false, false, false, false, false, false, false, false, false, false, false, false, false] rfl rfl (by kernel_rfl) (fun _ _ _ h => h) (Or.inl ⟨by rfl, ?_⟩) ?_ ?_
          rotate_left
          · intro w'
            go_simp
            with_reducible rfl
          rotate_left
          · simp only [Act.put, List.setIfInBounds_toArray, List.set_cons_zero, List.set_cons_succ, i64_w, i32_w]
            rfl
          refine pure_ (i := 4) (N := some 55) (v := ?_) (a' := ?_) #[true, true, true, true, true, false, false, false, false, false, false, false, false, false, false, false, false, false, false, false, false, false] rfl rfl (by kernel_rfl) (fun _ _ _ h => h) (Or.inl ⟨by rfl, ?_⟩) ?_ ?_
          rotate_left
          · intro w'
            go_simp
            with_reducible rfl
          rotate_left
          · simp only [Act.put, List.setIfInBounds_toArray, List.set_cons_zero, List.set_cons_succ, i64_w, i32_w]
            rfl
          refine pure_ (i := 6) (N := some 57) (v := ?_) (a' := ?_) #[true, true, true, true, true, false, true, false, false, false, false, false, false, false, false, false, false, false, false, false, false, false] rfl rfl (by kernel_rfl) (fun _ _ _ h => h) (Or.inl ⟨by rfl, ?_⟩) ?_ ?_
          rotate_left
          · intro w'
            go_simp
            with_reducible rfl
          rotate_left
          · simp only [Act.put, List.setIfInBounds_toArray, List.set_cons_zero, List.set_cons_succ, i64_w, i32_w]
            rfl
          refine pure_ (i := 7) (N := some 58) (v := ?_) (a' := ?_) #[true, true, true, true, true, false, true, true, false, false, false, false, false, false, false, false, false, false, false, false, false, false] rfl rfl (by kernel_rfl) (fun _ _ _ h => h) (Or.inl ⟨by rfl, ?_⟩) ?_ ?_
          rotate_left
          · intro w'
            go_simp
            with_reducible rfl
          rotate_left
          · simp only [Act.put, List.setIfInBounds_toArray, List.set_cons_zero, List.set_cons_succ, i64_w, i32_w]
            rfl
          refine pure_ (i := 8) (N := some 59) (v := ?_) (a' := ?_) #[true, true, true, true, true, false, true, true, true, false, false, false, false, false, false, false, false, false, false, false, false, false] rfl rfl (by kernel_rfl) (fun _ _ _ h => h) (Or.inl ⟨by rfl, ?_⟩) ?_ ?_
          rotate_left
          · intro w'
            go_simp
            with_reducible rfl
          rotate_left
          · simp only [Act.put, List.setIfInBounds_toArray, List.set_cons_zero, List.set_cons_succ, i64_w, i32_w]
            rfl
          refine pure_ (i := 9) (N := some 60) (v := ?_) (a' := ?_) #[true, true, true, true, true, false, true, true, true, true, false, false, false, false, false, false, false, false, false, false, false, false] rfl rfl (by kernel_rfl) (fun _ _ _ h => h) (Or.inl ⟨by rfl, ?_⟩) ?_ ?_
          rotate_left
          · intro w'
            go_simp
            with_reducible rfl
          rotate_left
          · simp only [Act.put, List.setIfInBounds_toArray, List.set_cons_zero, List.set_cons_succ, i64_w, i32_w]
            rfl
          refine pure_ (i := 11) (N := some 62) (v := ?_) (a' := ?_) #[true, true, true, true, true, false, true, true, true, true, false, true, false, false, false, false, false, false, false, false, false, false] rfl rfl (by kernel_rfl) (fun _ _ _ h => h) (Or.inl ⟨by rfl, ?_⟩) ?_ ?_
          rotate_left
          · intro w'
            go_simp
            with_reducible rfl
          rotate_left
          · simp only [Act.put, List.setIfInBounds_toArray, List.set_cons_zero, List.set_cons_succ, i64_w, i32_w]
            rfl
          refine pure_ (i := 12) (N := some 63) (v := ?_) (a' := ?_) #[true, true, true, true, true, false, true, true, true, true, false, true, true, false, false, false, false, false, false, false, false, false] rfl rfl (by kernel_rfl) (fun _ _ _ h => h) (Or.inl ⟨by rfl, ?_⟩) ?_ ?_
          rotate_left
          · intro w'
            go_simp
            with_reducible rfl
          rotate_left
          · simp only [Act.put, List.setIfInBounds_toArray, List.set_cons_zero, List.set_cons_succ, i64_w, i32_w]
            rfl
          refine pure_ (i := 13) (N := some 64) (v := ?_) (a' := ?_) #[true, true, true, true, true, false, true, true, true, true, false, true, true, true, false, false, false, false, false, false, false, false] rfl rfl (by kernel_rfl) (fun _ _ _ h => h) (Or.inl ⟨by rfl, ?_⟩) ?_ ?_
          rotate_left
          · intro w'
            go_simp
            with_reducible rfl
          rotate_left
          · simp only [Act.put, List.setIfInBounds_toArray, List.set_cons_zero, List.set_cons_succ, i64_w, i32_w]
            rfl
          refine pure_ (i := 14) (N := some 65) (v := ?_) (a' := ?_) #[true, true, true, true, true, false, true, true, true, true, false, true, true, true, true, false, false, false, false, false, false, false] rfl rfl (by kernel_rfl) (fun _ _ _ h => h) (Or.inl ⟨by rfl, ?_⟩) ?_ ?_
          rotate_left
          · intro w'
            go_simp
            with_reducible rfl
          rotate_left
          · simp only [Act.put, List.setIfInBounds_toArray, List.set_cons_zero, List.set_cons_succ, i64_w, i32_w]
            rfl
          refine pure_ (i := 16) (N := some 67) (v := ?_) (a' := ?_) #[true, true, true, true, true, false, true, true, true, true, false, true, true, true, true, false, true, false, false, false, false, false] rfl rfl (by kernel_rfl) (fun _ _ _ h => h) (Or.inl ⟨by rfl, ?_⟩) ?_ ?_
          rotate_left
          · intro w'
            go_simp
            with_reducible rfl
          rotate_left
          · simp only [Act.put, List.setIfInBounds_toArray, List.set_cons_zero, List.set_cons_succ, i64_w, i32_w]
            rfl
          refine pure_ (i := 17) (N := some 68) (v := ?_) (a' := ?_) #[true, true, true, true, true, false, true, true, true, true, false, true, true, true, true, false, true, true, false, false, false, false] rfl rfl (by kernel_rfl) (fun _ _ _ h => h) (Or.inl ⟨by rfl, ?_⟩) ?_ ?_
          rotate_left
          · intro w'
            go_simp
            with_reducible rfl
          rotate_left
          · simp only [Act.put, List.setIfInBounds_toArray, List.set_cons_zero, List.set_cons_succ, i64_w, i32_w]
            rfl
          refine pure_ (i := 18) (N := some 69) (v := ?_) (a' := ?_) #[true, true, true, true, true, false, true, true, true, true, false, true, true, true, true, false, true, true, true, false, false, false] rfl rfl (by kernel_rfl) (fun _ _ _ h => h) (Or.inl ⟨by rfl, ?_⟩) ?_ ?_
          rotate_left
          · intro w'
            go_simp
            with_reducible rfl
          rotate_left
          · simp only [Act.put, List.setIfInBounds_toArray, List.set_cons_zero, List.set_cons_succ, i64_w, i32_w]
            rfl
          refine pure_ (i := 19) (N := some 70) (v := ?_) (a' := ?_) #[true, true, true, true, true, false, true, true, true, true, false, true, true, true, true, false, true, true, true, true, false, false] rfl rfl (by kernel_rfl) (fun _ _ _ h => h) (Or.inl ⟨by rfl, ?_⟩) ?_ ?_
          rotate_left
          · intro w'
            go_simp
            with_reducible rfl
          rotate_left
          · simp only [Act.put, List.setIfInBounds_toArray, List.set_cons_zero, List.set_cons_succ, i64_w, i32_w]
            rfl
          refine take_ (i := 5) (N := some 56) (v := ?_) (a' := ?_) #[true, true, true, true, true, true, true, true, true, true, false, true, true, true, true, false, true, true, true, true, false, false] rfl rfl (by kernel_rfl) (fun _ _ _ h => h) (Or.inl ⟨by rfl, ?_⟩) hHeld ?_ ?_
          rotate_left
          · rintro w' ⟨s0, s1, s2, s3⟩
            go_simp
            with_reducible rfl
          rotate_left
          · simp only [Act.put, List.setIfInBounds_toArray, List.set_cons_zero, List.set_cons_succ, i64_w, i32_w]
            rfl
          refine take_ (i := 10) (N := some 61) (v := ?_) (a' := ?_) #[true, true, true, true, true, true, true, true, true, true, true, true, true, true, true, false, true, true, true, true, false, false] rfl rfl (by kernel_rfl) (fun _ _ _ h => h) (Or.inl ⟨by rfl, ?_⟩) hHeld ?_ ?_
          rotate_left
          · rintro w' ⟨s0, s1, s2, s3⟩
            go_simp
            with_reducible rfl
          rotate_left
          · simp only [Act.put, List.setIfInBounds_toArray, List.set_cons_zero, List.set_cons_succ, i64_w, i32_w]
            rfl
          refine take_ (i := 15) (N := some 66) (v := ?_) (a' := ?_) #[true, true, true, true, true, true, true, true, true, true, true, true, true, true, true, true, true, true, true, true, false, false] rfl rfl (by kernel_rfl) (fun _ _ _ h => h) (Or.inl ⟨by rfl, ?_⟩) hHeld ?_ ?_
          rotate_left
          · rintro w' ⟨s0, s1, s2, s3⟩
            go_simp
            with_reducible rfl
          rotate_left
          · simp only [Act.put, List.setIfInBounds_toArray, List.set_cons_zero, List.set_cons_succ, i64_w, i32_w]
            rfl
          refine take_ (i := 20) (N := some 71) (v := ?_) (a' := ?_) #[true, true, true, true, true, true, true, true, true, true, true, true, true, true, true, true, true, true, true, true, true, false] rfl rfl (by kernel_rfl) (fun _ _ _ h => h) (Or.inl ⟨by rfl, ?_⟩) hHeld ?_ ?_
          rotate_left
          · rintro w' ⟨s0, s1, s2, s3⟩
            go_simp
            with_reducible rfl
          rotate_left
          · simp only [Act.put, List.setIfInBounds_toArray, List.set_cons_zero, List.set_cons_succ, i64_w, i32_w]
            rfl
          refine last_ (i := 21) (N := some 72) #[true, true, true, true, true, true, true, true, true, true, true, true, true, true, true, true, true, true, true, true, true, true] rfl rfl (by kernel_rfl) (by decide) (fun K hK => ?_)
          refine goes_ Try.func14 (by kernel_rfl) rfl #[.pointer (some ⟨g, 0, none⟩), .int .i64 x.f1, .int .i64 x.f2, .bool x.f3, .int .i64 x.f4] (by rfl) rfl rfl (by simp only [List.map_toArray, List.map_cons, List.map_nil]; rfl) ?_
          with_reducible refine (pool_Store.calls x.f1 x.f2 x.f3 x.f4 HR.out wr.drew (HP.out.below (below_drew1 (Below.refl _ _)))).mono ?_
          rintro e w5 ⟨rfl, w5b, hb5, hw5⟩
          refine ⟨_, rfl, ?_⟩
          have HT5 := Aside0.mk (acts_stored HP.out (below_drew1 (Below.refl _ _)) hb5 hw5 HB.out (by have := HA2.out; rwa [Bool.or_false] at this) (show L.length ≤ i + 1 by have := HLi.out; omega) (show 0 ≤ n ∧ n ≤ 17 * ((i + 1 : Nat) : Int) by have := HN.out; omega))
          clear hb5 hw5
          refine hK.out _ _ ?_
          clear hK K
          refine norm_ (a' := ?_) ?_ ?_
          rotate_left
          · show Act.put _ (some 72) _ = _
            simp only [Act.put, List.setIfInBounds_toArray, List.set_cons_zero, List.set_cons_succ, i64_w, i32_w]
            rfl
          refine done_ (by kernel_rfl) ?_
          go_wp2
          go_roundg (a0.length - (i + 1))
          case measure => have := HQ.out; have := HI2.out; omega
          case rel => exact ⟨i + 1, by simp, ⟨by have := HI2.out; omega⟩, ⟨HT5.out⟩, ⟨rfl⟩⟩
      · have c0b : decide ((i : Int) < (a0.length : Int)) = false := decide_eq_false (by omega)
        have c1b : decide (i < a0.length) = false := decide_eq_false hi
        obtain ⟨L, n, v, bs, hp, hb, ha, hl, hn⟩ := HT.out
        rw [List.drop_eq_nil_of_le (by omega)] at ha
        obtain rfl : L = Lend := Option.some.inj ha
        have HP := Aside0.mk hp
        have HB := Aside0.mk hb
        clear HT hi hp hb ha hl hn HA HI HQ
        have hbx0 : ∀ W, Below w0.heap.size w0 W → ∀ (j : Nat) (u : Value), #[.int .i64 b0, .int .i64 b1, .int .i64 b2, .bool b3, .int .i64 b4, .int .u16 b5][j]? = some u → W.cell? ⟨w.heap.size, j, none⟩ = some u := fun W hb j u hu => (blk_cell ((hb.block w.heap.size (heap_lt HBox.out)).trans HBox.out) j).trans hu
        have HX := Aside0.mk hbx0
        clear hbx0
        go_wp2_with fail
        refine (pool_Shape.calls a2 _ HP.out).mono ?_
        rintro e w2 ⟨rfl, hb2⟩
        have HP2 := Aside0.mk (HP.out.below hb2)
        have HB2 := Aside0.mk (below_step HB.out hb2)
        clear hb2 HP HB
        go_wp2_with fail
        refine (turntableref03_Pointer.calls k _ _ _ kd _ HK.out).mono ?_
        rintro e w3 ⟨rfl, hb3⟩
        have HP3 := Aside0.mk (HP2.out.below hb3)
        have HB3 := Aside0.mk (below_step HB2.out hb3)
        clear hb3 HP2 HB2
        go_wp2_with fail
        refine (pool_Load.calls a2 a3 kd HG.out.2 _ HP3.out).mono ?_
        rintro e w4 ⟨rfl, hb4⟩
        have HP4 := Aside0.mk (HP3.out.below hb4)
        have HB4 := Aside0.mk (below_step HB3.out hb4)
        clear hb4 HP3 HB3
        have x1 := HX.out w4 HB4.out 1 _ rfl
        have x2 := HX.out w4 HB4.out 2 _ rfl
        have x3 := HX.out w4 HB4.out 3 _ rfl
        have x4 := HX.out w4 HB4.out 4 _ rfl
        by_cases ht : trapP L b1 b2 b3 = 0
        · have hS := pool_Store.calls b1 b2 b3 b4 HG.out.1 w4 HP4.out
          rw [ht] at hS
          generalize hwas : loadP L a2 a3 kd = was
          generalize htw : trapP L a2 a3 kd = tw
          have H3 := Aside0.mk (fun e : ¬ (a2 = b1 ∧ a3 = b2) => (⟨(loadP_store_far ht b4 kd e).trans hwas, (trapP_store L b1 b2 b4 a2 a3 kd).trans htw⟩ : loadP (storeL L b1 b2 b4) a2 a3 kd = was ∧ trapP (storeL L b1 b2 b4) a2 a3 kd = tw))
          have H4 := Aside0.mk (⟨loadP_store_same HP4.out.ob ht b4, (trapP_store L b1 b2 b4 b1 b2 b3).trans ht⟩ : loadP (storeL L b1 b2 b4) b1 b2 b3 = b4 ∧ trapP (storeL L b1 b2 b4) b1 b2 b3 = 0)
          have HSt := Aside0.mk hS
          have HT0 := Aside0.mk ht
          clear hS ht
          clear hwas htw
          go_wp2_with fail
          refine HSt.out.mono ?_
          rintro e w5 ⟨rfl, w5b, hb5, hw5⟩
          obtain ⟨hp5, hb5'⟩ := store_below (q := b3) (x := b4) (W' := w5) HP4.out HB4.out hb5 (by rw [if_pos HT0.out]; simpa using hw5) (below_size HB4.out)
          rw [if_pos HT0.out] at hp5
          have HP5 := Aside0.mk hp5
          have HB5 := Aside0.mk hb5'
          have y1 := HX.out w5 HB5.out 1 _ rfl
          have y2 := HX.out w5 HB5.out 2 _ rfl
          have y3 := HX.out w5 HB5.out 3 _ rfl
          clear hw5 hb5 hb5' hp5 HSt HP4 HB4 x1 x2 x3 x4
          generalize storeL L b1 b2 b4 = L2 at HP5 H3 H4
          go_wp2_with fail
          refine (pool_Load.calls b1 b2 b3 HG.out.1 _ HP5.out).mono ?_
          rw [H4.out.1, H4.out.2]
          rintro e w6 ⟨rfl, hb6⟩
          have tn : (b4 != b4) = false := by simp
          have HP6 := Aside0.mk (HP5.out.below hb6)
          have HB6 := Aside0.mk (below_step HB5.out hb6)
          have z1 := HX.out w6 HB6.out 1 _ rfl
          have z2 := HX.out w6 HB6.out 2 _ rfl
          have z4 := HX.out w6 HB6.out 4 _ rfl
          have twt : (tw == tw) = true := by simp
          have wat : (was == was) = true := by simp
          clear hb6 HP5 HB5 y1 y2 y3
          by_cases e : a2 = b1 ∧ a3 = b2
          · obtain ⟨e1, e2⟩ := e
            have f1 : (a2 == b1) = true := beq_iff_eq.mpr e1
            have f2 : (a3 == b2) = true := beq_iff_eq.mpr e2
            clear e1 e2
            go_wp2_with fail
            refine (pool_works.calls _).mono ?_
            rintro e w7 ⟨rfl, hb7⟩
            have HB7 := Aside0.mk (below_step HBx.out (below_step HB6.out hb7))
            clear hb7
            go_wp2
            go_ret
            exact ⟨rfl, HB7.out⟩
          · have hq := H3.out e
            have HQ := Aside0.mk hq
            have hf : ((a2 == b1) = true ∧ (a3 == b2) = false) ∨ (a2 == b1) = false := by
              by_cases e1 : a2 = b1
              · by_cases e2 : a3 = b2
                · exact absurd ⟨e1, e2⟩ e
                · exact .inl ⟨beq_iff_eq.mpr e1, beq_eq_false_iff_ne.mpr e2⟩
              · exact .inr (beq_eq_false_iff_ne.mpr e1)
            clear e hq
            rcases hf with ⟨f1, f2⟩ | f1
            all_goals
              go_wp2_with fail
              refine (pool_Load.calls a2 a3 kd HG.out.2 _ HP6.out).mono ?_
              rw [HQ.out.1, HQ.out.2]
              rintro e w7 ⟨rfl, hb7⟩
              have HB7 := Aside0.mk (below_step HB6.out hb7)
              clear hb7
              go_wp2_with fail
              refine (pool_works.calls _).mono ?_
              rintro e w8 ⟨rfl, hb8⟩
              have HB8 := Aside0.mk (below_step HBx.out (below_step HB7.out hb8))
              clear hb8
              go_wp2
              go_ret
              exact ⟨rfl, HB8.out⟩
        · generalize hwas : loadP L a2 a3 kd = was
          generalize htw : trapP L a2 a3 kd = tw
          have H3 := Aside0.mk (⟨hwas, htw⟩ : loadP L a2 a3 kd = was ∧ trapP L a2 a3 kd = tw)
          have hS := pool_Store.calls b1 b2 b3 b4 HG.out.1 w4 HP4.out
          have HSt := Aside0.mk hS
          have HT0 := Aside0.mk ht
          clear hS
          clear hwas htw
          go_wp2_with fail
          refine HSt.out.mono ?_
          rintro e w5 ⟨rfl, w5b, hb5, hw5⟩
          obtain ⟨hp5, hb5'⟩ := store_below (q := b3) (x := b4) (W' := w5) HP4.out HB4.out hb5 hw5 (below_size HB4.out)
          rw [if_neg HT0.out] at hp5
          have HP5 := Aside0.mk hp5
          have HB5 := Aside0.mk hb5'
          have y1 := HX.out w5 HB5.out 1 _ rfl
          have y2 := HX.out w5 HB5.out 2 _ rfl
          have y3 := HX.out w5 HB5.out 3 _ rfl
          have hL := pool_Load.calls b1 b2 b3 HG.out.1 w5 hp5
          have HLd := Aside0.mk hL
          have tn : (trapP L b1 b2 b3 == 0) = false := beq_eq_false_iff_ne.mpr ht
          clear hw5 hb5 hb5' hp5 HSt HP4 HB4 x1 x2 x3 x4 hL HT0
          go_wp2_with fail
          refine HLd.out.mono ?_
          rintro e w6 ⟨rfl, hb6⟩
          generalize trapP L b1 b2 b3 = tt at ht tn ⊢
          have tn2 : (tt != tt) = false := by simp
          clear ht HLd
          have HP6 := Aside0.mk (HP5.out.below hb6)
          have HB6 := Aside0.mk (below_step HB5.out hb6)
          have z1 := HX.out w6 HB6.out 1 _ rfl
          have z2 := HX.out w6 HB6.out 2 _ rfl
          have z4 := HX.out w6 HB6.out 4 _ rfl
          have twt : (tw == tw) = true := by simp
          have wat : (was == was) = true := by simp
          clear hb6 HP5 HB5 y1 y2 y3
          by_cases e : a2 = b1 ∧ a3 = b2
          · obtain ⟨e1, e2⟩ := e
            have f1 : (a2 == b1) = true := beq_iff_eq.mpr e1
            have f2 : (a3 == b2) = true := beq_iff_eq.mpr e2
            clear e1 e2
            go_wp2_with fail
            refine (pool_works.calls _).mono ?_
            rintro e w7 ⟨rfl, hb7⟩
            have HB7 := Aside0.mk (below_step HBx.out (below_step HB6.out hb7))
            clear hb7
            go_wp2
            go_ret
            exact ⟨rfl, HB7.out⟩
          · have hq := H3.out
            have HQ := Aside0.mk hq
            have hf : ((a2 == b1) = true ∧ (a3 == b2) = false) ∨ (a2 == b1) = false := by
              by_cases e1 : a2 = b1
              · by_cases e2 : a3 = b2
                · exact absurd ⟨e1, e2⟩ e
                · exact .inl ⟨beq_iff_eq.mpr e1, beq_eq_false_iff_ne.mpr e2⟩
              · exact .inr (beq_eq_false_iff_ne.mpr e1)
            clear e hq
            rcases hf with ⟨f1, f2⟩ | f1
            all_goals
              go_wp2_with fail
              refine (pool_Load.calls a2 a3 kd HG.out.2 _ HP6.out).mono ?_
              rw [HQ.out.1, HQ.out.2]
              rintro e w7 ⟨rfl, hb7⟩
              have HB7 := Aside0.mk (below_step HB6.out hb7)
              clear hb7
              go_wp2_with fail
              refine (pool_works.calls _).mono ?_
              rintro e w8 ⟨rfl, hb8⟩
              have HB8 := Aside0.mk (below_step HBx.out (below_step HB7.out hb8))
              clear hb8
              go_wp2
              go_ret
              exact ⟨rfl, HB8.out⟩
end Go.Proofs.Ytcpomchijogblaa.PPo
