/- The law PoolDoes, walked. -/
import Derived.Test.YtcpomchijogblaaHDoesParts
namespace Go.Proofs.Ytcpomchijogblaa.PPo
open Go.RowKit Go.Proofs.YtcpomchijogblaaW.PrintWords Go.Proofs.YtcpomchijogblaaW.PrintLast Go.Proofs.YtcpomchijogblaaW.PrintMore Go.Proofs.Ytcpomchijogblaa.Str
set_option linter.unusedVariables false
set_option linter.unusedSimpArgs false

def okId (x : Int) : Prop := -9223372036854775808 ≤ x ∧ x ≤ 9223372036854775807
instance (x : Int) : Decidable (okId x) := inferInstanceAs (Decidable (_ ∧ _))
def turntablelaw12_PoolDoes.f (a0 : List S25) (a1 a2 : Int) : Option Bool :=
  if (∀ x ∈ a0, okId x.f1 ∧ 0 ≤ x.f5 ∧ x.f5 < 65536) ∧ okId a1 then some true else none
theorem C_two (W : World) (a b : Int) : Kd.C (Kd.int .i64) (W.alloc (.cells #[.int .i64 a, .int .i64 b] 3)) (some ⟨W.heap.size, 0, none⟩) 2 [a, b] := C_pair W a b
set_option maxHeartbeats 16000000 in
set_option maxRecDepth 100000 in
theorem turntablelaw12_PoolDoes.calls (A0 : Option Addr) (c0 : Nat) (a0 : List S25) (a1 a2 : Int) (r : Bool) (w : World) (C0 : Kd.C k25 w A0 a0.length a0) (l0 : a0.length ≤ c0)
    (h : turntablelaw12_PoolDoes.f a0 a1 a2 = some r) :
    Calls Try.prog 5 #[.slice A0 a0.length c0, .int .i64 a1, .int .i64 a2] w fun e w' => e = .returned (.bool r) ∧ Below w.heap.size w w' := by
  have hu25 := Try.underlying25
  have hu31 := Try.underlying31
  have hu27 := Try.underlying27
  unfold turntablelaw12_PoolDoes.f at h
  have HC := Aside0.mk C0
  by_cases hg : (∀ x ∈ a0, okId x.f1 ∧ 0 ≤ x.f5 ∧ x.f5 < 65536) ∧ okId a1
  rotate_left
  · rw [if_neg hg] at h
    cases h
  rw [if_pos hg] at h
  obtain rfl := Option.some.inj h
  have HG := Aside0.mk hg
  clear h hg
  by_cases h60 : 60 < a0.length
  · have d60 : decide (60 < a0.length) = true := decide_eq_true h60
    have d61 : decide ((60 : Int) < (a0.length : Int)) = true := decide_eq_true (by omega)
    clear h60 C0 l0
    go_enter Try.func5, Try.ntmps5
    go_wp2_with fail
    refine (pool_works.calls _).mono ?_
    rintro e w1 ⟨rfl, hb⟩
    have HB := Aside0.mk hb
    clear hb
    go_wp2
    go_ret
    exact ⟨rfl, HB.out⟩
  have d60 : decide (60 < a0.length) = false := decide_eq_false h60
  have d61 : decide ((60 : Int) < (a0.length : Int)) = false := decide_eq_false (by omega)
  have H60 := Aside0.mk h60
  clear h60 C0 l0
  go_enter Try.func5, Try.ntmps5
  go_wp2_with fail
  refine (pool_New.calls _).mono ?_
  rintro e w1 ⟨g, rfl, hp1, hb1⟩
  have hd1 : DB w g none [] [] none 0 w1 := ⟨0, _, [], fun k => w.heap.size ≤ k ∧ k < w1.heap.size, hp1.bound, Kd.V_nil _ _ _ _ _, fun k hk => hk.2, (fun _ _ e => by cases e), hb1, rfl, by simp, by simp, by simp, by simp⟩
  have HD1 := Aside0.mk hd1
  clear hp1 hb1 hd1
  go_wp2
  go_loopg [8, 9] a0.length (fun kq v8 v9 w' => ∃ (i : Nat) (L : List S73) (A : Option Addr) (c : Nat), v9 = .int .i64 i ∧ v8 = .slice A L.length c ∧ Aside0 (i ≤ a0.length) ∧ Aside0 (L.length ≤ i) ∧ Aside0 (DB w g none L L A c w') ∧ Aside0 (kq = a0.length - i))
  case atStart => exact ⟨0, [], none, 0, rfl, rfl, ⟨by omega⟩, ⟨by simp⟩, ⟨HD1.out⟩, ⟨rfl⟩⟩
  case round =>
    clear HD1
    obtain ⟨i, L, A, c, rfl, rfl, HI, HLi, HD, HQ⟩ := hrel
    by_cases hi : i < a0.length
    · have c0b : decide ((i : Int) < (a0.length : Int)) = true := decide_eq_true (by omega)
      have c1b : decide (i < a0.length) = true := decide_eq_true hi
      have p0 : (0 ≤ (i : Int)) = True := eq_true (by omega)
      have q0 : ((i : Int) < (a0.length : Int)) = True := eq_true (by omega)
      have q1 : (i < a0.length) = True := eq_true hi
      have hi9 : IntKind.i64.wrap ((i : Int) + 1) = ((i + 1 : Nat) : Int) := by have := H60.out; rw [i64_w, w64 (by omega) (by omega)]; omega
      have hat := at_T25 (Kd.C_below HC.out HD.out.bel) i (by omega) (by omega)
      have hrd : rd_T25 a0 i = a0[i] := by unfold rd_T25; rw [List.getD_eq_getElem?_getD, Int.toNat_natCast, List.getElem?_eq_getElem hi]; rfl
      have hgi := HG.out.1 a0[i] (List.getElem_mem hi)
      rw [hrd] at hat
      generalize a0[i] = x at hat hgi
      obtain ⟨ad, rfl, x0, x1, x2, x3, x4, x5⟩ := hat
      rw [Int.toNat_natCast] at x0 x1 x2 x3 x4 x5
      have HI2 := Aside0.mk hi
      have HX := Aside0.mk hgi
      have HLe := Aside0.mk (show L.length < 60 by have := HLi.out; have := H60.out; omega)
      clear hi hrd hgi
      have hdb : DB w g (some (wr.heap.size, x)) L L A c (wr.alloc (.cells #[.int .i64 x.f0, .int .i64 x.f1, .int .i64 x.f2, .bool x.f3, .int .i64 x.f4, .int .u16 x.f5] 25)) := HD.out.box x
      go_upto_region 11 with (fail)
      generalize wr.alloc (.cells #[.int .i64 x.f0, .int .i64 x.f1, .int .i64 x.f2, .bool x.f3, .int .i64 x.f4, .int .u16 x.f5] 25) = W0 at hdb ⊢
      generalize wr.heap.size = b1 at hdb ⊢
      have HD0 := Aside0.mk hdb
      clear hdb x0 x1 x2 x3 x4 x5
      have y0 : W0.cell? ⟨b1, 0, none⟩ = some (.int .i64 x.f0) := (HD0.out.cell 0).trans rfl
      go_upto_block 2 with (fail)
      go_cut [8] (fun s8 wx => ∃ (L2 : List S73) (A2 : Option Addr) (c2 : Nat), s8 = .slice A2 L2.length c2 ∧ Aside0 (L2.length ≤ i + 1) ∧ Aside0 (DB w g (some (b1, x)) L2 L2 A2 c2 wx))
      case first =>
        have y1 : W0.cell? ⟨b1, 1, none⟩ = some (.int .i64 x.f1) := (HD0.out.cell 1).trans rfl
        have y2 : W0.cell? ⟨b1, 2, none⟩ = some (.int .i64 x.f2) := (HD0.out.cell 2).trans rfl
        have y3 : W0.cell? ⟨b1, 3, none⟩ = some (.bool x.f3) := (HD0.out.cell 3).trans rfl
        have y4 : W0.cell? ⟨b1, 4, none⟩ = some (.int .i64 x.f4) := (HD0.out.cell 4).trans rfl
        have y5 : W0.cell? ⟨b1, 5, none⟩ = some (.int .u16 x.f5) := (HD0.out.cell 5).trans rfl
        by_cases k0 : x.f0 = 0
        · have d0 : (x.f0 == 0) = true := beq_iff_eq.mpr k0
          obtain ⟨n, m, hn0, hn1, hm0, hm1, hev⟩ := lawShape2 x.f2 x.f5 HX.out.2.1 HX.out.2.2
          obtain ⟨k, hk⟩ := hev.rounds
          have HS := Aside0.mk hk
          have HN := Aside0.mk (And.intro hn0 (And.intro hn1 (And.intro hm0 hm1)))
          clear hev hk hn0 hn1 hm0 hm1 k0
          go_wp2_with fail
          refine (turntablelaw12_Shape.calls k x.f2 x.f5 n m _ HS.out).mono ?_
          rintro e w4 ⟨rfl, hb4⟩
          have HD4 := Aside0.mk (HD0.out.below hb4)
          have hb5 : Below w4.heap.size w4 (w4.alloc (.cells #[.int .i64 n, .int .i64 m] 31)) := below_alloc (Below.refl _ _) _
          have HD5 := Aside0.mk (HD4.out.below hb5)
          have HBx := Aside0.mk (blk_new w4 (.cells #[.int .i64 n, .int .i64 m] 31))
          clear hb4 hb5 y0 y1 y2 y3 y4 y5
          go_wp2_with fail
          refine (db_rMake HD5.out n m HN.out.1 HN.out.2.1 HN.out.2.2.1 HN.out.2.2.2 HLe.out).mono ?_
          rintro e w6 ⟨A6, c6, rfl, hd6, hb6⟩
          have HD6 := Aside0.mk hd6
          have hbx := blk_below HBx.out hb6
          have z0 : w6.cell? ⟨w4.heap.size, 0, none⟩ = some (.int .i64 n) := (blk_cell hbx 0).trans rfl
          have z1 : w6.cell? ⟨w4.heap.size, 1, none⟩ = some (.int .i64 m) := (blk_cell hbx 1).trans rfl
          clear hd6 hb6 hbx
          go_wp2_with fail
          refine (db_Make HD6.out n m HN.out.1 HN.out.2.1 HN.out.2.2.1 HN.out.2.2.2 HLe.out).mono ?_
          rintro e w7 ⟨rfl, hd7⟩
          have HD7 := Aside0.mk hd7
          clear hd7 z0 z1
          go_wp2_with fail
          go_meet
          exact ⟨L ++ [⟨⟨n, m⟩, List.replicate n.toNat 0⟩], A6, c6, by rw [List.length_append]; rfl, ⟨by rw [List.length_append]; have := HLi.out; simp; omega⟩, ⟨HD7.out⟩⟩
        · have d0 : (x.f0 == 0) = false := beq_eq_false_iff_ne.mpr k0
          by_cases k1 : x.f0 = 1
          · have d1 : (x.f0 == 1) = true := beq_iff_eq.mpr k1
            clear k0 k1
            go_wp2_with fail
            refine (db_Load HD0.out x.f1 x.f2 x.f3 HX.out.1.1).mono ?_
            rintro e w4 ⟨rfl, hd4, hb4⟩
            have HD4 := Aside0.mk hd4
            clear hd4 hb4 y0 y1 y2 y3 y4 y5
            have y1 : w4.cell? ⟨b1, 1, none⟩ = some (.int .i64 x.f1) := (HD4.out.cell 1).trans rfl
            have y2 : w4.cell? ⟨b1, 2, none⟩ = some (.int .i64 x.f2) := (HD4.out.cell 2).trans rfl
            have y3 : w4.cell? ⟨b1, 3, none⟩ = some (.bool x.f3) := (HD4.out.cell 3).trans rfl
            go_wp2_with fail
            refine (db_rLoad HD4.out x.f1 x.f2 x.f3 HX.out.1.2).mono ?_
            rintro e w5 ⟨rfl, hd5, hb5⟩
            have HD5 := Aside0.mk hd5
            clear hd5 hb5 y1 y2 y3
            go_wp2_with fail
            go_meet
            exact ⟨L, A, c, rfl, ⟨by have := HLi.out; omega⟩, ⟨HD5.out⟩⟩
          · have d1 : (x.f0 == 1) = false := beq_eq_false_iff_ne.mpr k1
            by_cases k2 : x.f0 = 2
            · have d2 : (x.f0 == 2) = true := beq_iff_eq.mpr k2
              clear k0 k1 k2
              go_wp2_with fail
              refine (db_rStore HD0.out x.f1 x.f2 x.f3 x.f4 HX.out.1.2).mono ?_
              rintro e w4 ⟨A4, c4, rfl, hd4, hb4⟩
              have HD4 := Aside0.mk hd4
              clear hd4 hb4 y0 y1 y2 y3 y4 y5
              have y1 : w4.cell? ⟨b1, 1, none⟩ = some (.int .i64 x.f1) := (HD4.out.cell 1).trans rfl
              have y2 : w4.cell? ⟨b1, 2, none⟩ = some (.int .i64 x.f2) := (HD4.out.cell 2).trans rfl
              have y3 : w4.cell? ⟨b1, 3, none⟩ = some (.bool x.f3) := (HD4.out.cell 3).trans rfl
              have y4 : w4.cell? ⟨b1, 4, none⟩ = some (.int .i64 x.f4) := (HD4.out.cell 4).trans rfl
              go_wp2_with fail
              refine (db_Store HD4.out x.f1 x.f2 x.f3 x.f4 HX.out.1.1).mono ?_
              rintro e w5 ⟨rfl, hd5⟩
              have HD5 := Aside0.mk hd5
              clear hd5 y1 y2 y3 y4
              go_wp2_with fail
              go_meet
              have hlen : (if trapP L x.f1 x.f2 x.f3 = 0 then storeL L x.f1 x.f2 x.f4 else L).length = L.length := by split; rw [storeL_len]; rfl
              exact ⟨_, A4, c4, by rw [hlen], ⟨by rw [hlen]; have := HLi.out; omega⟩, ⟨HD5.out⟩⟩
            · have d2 : (x.f0 == 2) = false := beq_eq_false_iff_ne.mpr k2
              clear k0 k1 k2
              by_cases k7 : Int.tmod x.f4 7 = 0
              · have d7 : (Int.tmod x.f4 7 == 0) = true := beq_iff_eq.mpr k7
                go_wp2_with fail
                refine (db_Wipe HD0.out).mono ?_
                rintro e w4 ⟨rfl, hd4⟩
                have HD4 := Aside0.mk hd4
                clear hd4 y0 y1 y2 y3 y4 y5
                go_wp2_with fail
                go_meet
                exact ⟨[], none, 0, rfl, ⟨by simp⟩, ⟨HD4.out.nilRef⟩⟩
              · have d7 : (Int.tmod x.f4 7 == 0) = false := beq_eq_false_iff_ne.mpr k7
                clear k7
                go_wp2_with fail
                go_meet
                exact ⟨L, A, c, rfl, ⟨by have := HLi.out; omega⟩, ⟨HD0.out⟩⟩
      case rest =>
        obtain ⟨L2, A2, c2, rfl, HL2, HD2⟩ := hcut
        clear HD0 y0 HD HLi HLe
        have HXi : Aside0 (-9223372036854775808 ≤ x.f1 ∧ x.f1 ≤ 9223372036854775807) := ⟨HX.out.1⟩
        have y1 : wc.cell? ⟨b1, 1, none⟩ = some (.int .i64 x.f1) := (HD2.out.cell 1).trans rfl
        have y2 : wc.cell? ⟨b1, 2, none⟩ = some (.int .i64 x.f2) := (HD2.out.cell 2).trans rfl
        go_upto_region 30 with (fail)
        refine start_ (n := 38) (S := fun w' => w'.cell? ⟨b1, 1, none⟩ = some (.int .i64 x.f1) ∧ w'.cell? ⟨b1, 2, none⟩ = some (.int .i64 x.f2)) (ds := []) #[false, false, false, false, false, false, false, false, false, false, false, false, false, false, false, false, false, false, false, false, false, false, false, false, false, false, false, false, false, false, false, false, false, false, false, false, false, false] (by kernel_rfl) rfl rfl ⟨y1, y2⟩ (fun hHeld => ?_)
        refine pure_ (i := 0) (N := some 119) (v := ?_) (a' := ?_) #[true, false, false, false, false, false, false, false, false, false, false, false, false, false, false, false, false, false, false, false, false, false, false, false, false, false, false, false, false, false, false, false, false, false, false, false, false, false] rfl rfl (by kernel_rfl) (fun _ _ _ h => h) (Or.inl ⟨by rfl, ?_⟩) ?_ ?_
        rotate_left
        · intro w'
          go_simp
          with_reducible rfl
        rotate_left
        · simp only [Act.put, List.setIfInBounds_toArray, List.set_cons_zero, List.set_cons_succ, i64_w, i32_w]
          rfl
        refine pure_ (i := 2) (N := some 121) (v := ?_) (a' := ?_) #[true, false, true, false, false, false, false, false, false, false, false, false, false, false, false, false, false, false, false, false, false, false, false, false, false, false, false, false, false, false, false, false, false, false, false, false, false, false] rfl rfl (by kernel_rfl) (fun _ _ _ h => h) (Or.inl ⟨by rfl, ?_⟩) ?_ ?_
        rotate_left
        · intro w'
          go_simp
          with_reducible rfl
        rotate_left
        · simp only [Act.put, List.setIfInBounds_toArray, List.set_cons_zero, List.set_cons_succ, i64_w, i32_w]
          rfl
        refine pure_ (i := 3) (N := some 122) (v := ?_) (a' := ?_) #[true, false, true, true, false, false, false, false, false, false, false, false, false, false, false, false, false, false, false, false, false, false, false, false, false, false, false, false, false, false, false, false, false, false, false, false, false, false] rfl rfl (by kernel_rfl) (fun _ _ _ h => h) (Or.inl ⟨by rfl, ?_⟩) ?_ ?_
        rotate_left
        · intro w'
          go_simp
          with_reducible rfl
        rotate_left
        · simp only [Act.put, List.setIfInBounds_toArray, List.set_cons_zero, List.set_cons_succ, i64_w, i32_w]
          rfl
        refine one_ (i := 1) (N := some 120) #[true, true, true, true, false, false, false, false, false, false, false, false, false, false, false, false, false, false, false, false, false, false, false, false, false, false, false, false, false, false, false, false, false, false, false, false, false, false] rfl rfl (by kernel_rfl) (by decide) (fun K hK => ?_)
        have HD3 := Aside0.mk HD2.out.drew
        refine goes_ Try.func19 (by kernel_rfl) rfl #[.pointer (some ⟨g, 0, none⟩)] (by rfl) rfl rfl (by simp only [List.map_toArray, List.map_cons, List.map_nil]; rfl) ?_
        with_reducible refine (db_Len HD3.out).mono ?_
        rintro e w3 ⟨rfl, rfl⟩
        refine ⟨_, rfl, ?_⟩
        refine hK.out _ _ ⟨(HD3.out.cell 1).trans rfl, (HD3.out.cell 2).trans rfl⟩ (fun hHeld => ?_)
        clear hK K
        refine norm_ (a' := ?_) ?_ ?_
        rotate_left
        · show Act.put _ (some 120) _ = _
          simp only [Act.put, List.setIfInBounds_toArray, List.set_cons_zero, List.set_cons_succ, i64_w, i32_w]
          rfl
        refine pure_ (i := 4) (N := some 123) (v := ?_) (a' := ?_) #[true, true, true, true, true, false, false, false, false, false, false, false, false, false, false, false, false, false, false, false, false, false, false, false, false, false, false, false, false, false, false, false, false, false, false, false, false, false] rfl rfl (by kernel_rfl) (fun _ _ _ h => h) (Or.inl ⟨by rfl, ?_⟩) ?_ ?_
        rotate_left
        · intro w'
          go_simp
          with_reducible rfl
        rotate_left
        · simp only [Act.put, List.setIfInBounds_toArray, List.set_cons_zero, List.set_cons_succ, i64_w, i32_w]
          rfl
        refine pure_ (i := 5) (N := some 124) (v := ?_) (a' := ?_) #[true, true, true, true, true, true, false, false, false, false, false, false, false, false, false, false, false, false, false, false, false, false, false, false, false, false, false, false, false, false, false, false, false, false, false, false, false, false] rfl rfl (by kernel_rfl) (fun _ _ _ h => h) (Or.inl ⟨by rfl, ?_⟩) ?_ ?_
        rotate_left
        · intro w'
          go_simp
          with_reducible rfl
        rotate_left
        · simp only [Act.put, List.setIfInBounds_toArray, List.set_cons_zero, List.set_cons_succ, i64_w, i32_w]
          rfl
        refine pure_ (i := 6) (N := some 125) (v := ?_) (a' := ?_) #[true, true, true, true, true, true, true, false, false, false, false, false, false, false, false, false, false, false, false, false, false, false, false, false, false, false, false, false, false, false, false, false, false, false, false, false, false, false] rfl rfl (by kernel_rfl) (fun _ _ _ h => h) (Or.inl ⟨by rfl, ?_⟩) ?_ ?_
        rotate_left
        · intro w'
          go_simp
          with_reducible rfl
        rotate_left
        · simp only [Act.put, List.setIfInBounds_toArray, List.set_cons_zero, List.set_cons_succ, i64_w, i32_w]
          rfl
        refine pure_ (i := 8) (N := some 127) (v := ?_) (a' := ?_) #[true, true, true, true, true, true, true, false, true, false, false, false, false, false, false, false, false, false, false, false, false, false, false, false, false, false, false, false, false, false, false, false, false, false, false, false, false, false] rfl rfl (by kernel_rfl) (fun _ _ _ h => h) (Or.inl ⟨by rfl, ?_⟩) ?_ ?_
        rotate_left
        · intro w'
          go_simp
          with_reducible rfl
        rotate_left
        · simp only [Act.put, List.setIfInBounds_toArray, List.set_cons_zero, List.set_cons_succ, i64_w, i32_w]
          rfl
        refine one_ (i := 7) (N := some 126) #[true, true, true, true, true, true, true, true, true, false, false, false, false, false, false, false, false, false, false, false, false, false, false, false, false, false, false, false, false, false, false, false, false, false, false, false, false, false] rfl rfl (by kernel_rfl) (by decide) (fun K hK => ?_)
        refine goes_ Try.func24 (by kernel_rfl) rfl #[.pointer (some ⟨g, 0, none⟩)] (by rfl) rfl rfl (by simp only [List.map_toArray, List.map_cons, List.map_nil]; rfl) ?_
        with_reducible refine (db_Words HD3.out).mono ?_
        rintro e w3 ⟨rfl, rfl⟩
        refine ⟨_, rfl, ?_⟩
        refine hK.out _ _ ⟨(HD3.out.cell 1).trans rfl, (HD3.out.cell 2).trans rfl⟩ (fun hHeld => ?_)
        clear hK K
        refine norm_ (a' := ?_) ?_ ?_
        rotate_left
        · show Act.put _ (some 126) _ = _
          simp only [Act.put, List.setIfInBounds_toArray, List.set_cons_zero, List.set_cons_succ, i64_w, i32_w]
          rfl
        refine one_ (i := 9) (N := some 128) #[true, true, true, true, true, true, true, true, true, true, false, false, false, false, false, false, false, false, false, false, false, false, false, false, false, false, false, false, false, false, false, false, false, false, false, false, false, false] rfl rfl (by kernel_rfl) (by decide) (fun K hK => ?_)
        refine goes_ Try.func25 (by kernel_rfl) rfl #[.slice A2 L2.length c2] (by rfl) rfl rfl (by simp only [List.map_toArray, List.map_cons, List.map_nil]; rfl) ?_
        with_reducible refine (db_rWords HD3.out).mono ?_
        rintro e w4 ⟨rfl, hd4, hb4⟩
        refine ⟨_, rfl, ?_⟩
        have HD4 := Aside0.mk hd4
        clear hd4 hb4
        refine hK.out _ _ ⟨(HD4.out.cell 1).trans rfl, (HD4.out.cell 2).trans rfl⟩ (fun hHeld => ?_)
        clear hK K
        refine norm_ (a' := ?_) ?_ ?_
        rotate_left
        · show Act.put _ (some 128) _ = _
          simp only [Act.put, List.setIfInBounds_toArray, List.set_cons_zero, List.set_cons_succ, i64_w, i32_w]
          rfl
        refine pure_ (i := 10) (N := some 129) (v := ?_) (a' := ?_) #[true, true, true, true, true, true, true, true, true, true, true, false, false, false, false, false, false, false, false, false, false, false, false, false, false, false, false, false, false, false, false, false, false, false, false, false, false, false] rfl rfl (by kernel_rfl) (fun _ _ _ h => h) (Or.inl ⟨by rfl, ?_⟩) ?_ ?_
        rotate_left
        · intro w'
          go_simp
          with_reducible rfl
        rotate_left
        · simp only [Act.put, List.setIfInBounds_toArray, List.set_cons_zero, List.set_cons_succ, i64_w, i32_w]
          rfl
        refine pure_ (i := 11) (N := some 130) (v := ?_) (a' := ?_) #[true, true, true, true, true, true, true, true, true, true, true, true, false, false, false, false, false, false, false, false, false, false, false, false, false, false, false, false, false, false, false, false, false, false, false, false, false, false] rfl rfl (by kernel_rfl) (fun _ _ _ h => h) (Or.inl ⟨by rfl, ?_⟩) ?_ ?_
        rotate_left
        · intro w'
          go_simp
          with_reducible rfl
        rotate_left
        · simp only [Act.put, List.setIfInBounds_toArray, List.set_cons_zero, List.set_cons_succ, i64_w, i32_w]
          rfl
        refine pure_ (i := 12) (N := some 131) (v := ?_) (a' := ?_) #[true, true, true, true, true, true, true, true, true, true, true, true, true, false, false, false, false, false, false, false, false, false, false, false, false, false, false, false, false, false, false, false, false, false, false, false, false, false] rfl rfl (by kernel_rfl) (fun _ _ _ h => h) (Or.inl ⟨by rfl, ?_⟩) ?_ ?_
        rotate_left
        · intro w'
          go_simp
          with_reducible rfl
        rotate_left
        · simp only [Act.put, List.setIfInBounds_toArray, List.set_cons_zero, List.set_cons_succ, i64_w, i32_w]
          rfl
        refine pure_ (i := 13) (N := some 132) (v := ?_) (a' := ?_) #[true, true, true, true, true, true, true, true, true, true, true, true, true, true, false, false, false, false, false, false, false, false, false, false, false, false, false, false, false, false, false, false, false, false, false, false, false, false] rfl rfl (by kernel_rfl) (fun _ _ _ h => h) (Or.inl ⟨by rfl, ?_⟩) ?_ ?_
        rotate_left
        · intro w'
          go_simp
          with_reducible rfl
        rotate_left
        · simp only [Act.put, List.setIfInBounds_toArray, List.set_cons_zero, List.set_cons_succ, i64_w, i32_w]
          rfl
        refine pure_ (i := 14) (N := some 133) (v := ?_) (a' := ?_) #[true, true, true, true, true, true, true, true, true, true, true, true, true, true, true, false, false, false, false, false, false, false, false, false, false, false, false, false, false, false, false, false, false, false, false, false, false, false] rfl rfl (by kernel_rfl) (fun _ _ _ h => h) (Or.inl ⟨by rfl, ?_⟩) ?_ ?_
        rotate_left
        · intro w'
          go_simp
          with_reducible rfl
        rotate_left
        · simp only [Act.put, List.setIfInBounds_toArray, List.set_cons_zero, List.set_cons_succ, i64_w, i32_w]
          rfl
        refine pure_ (i := 16) (N := some 135) (v := ?_) (a' := ?_) #[true, true, true, true, true, true, true, true, true, true, true, true, true, true, true, false, true, false, false, false, false, false, false, false, false, false, false, false, false, false, false, false, false, false, false, false, false, false] rfl rfl (by kernel_rfl) (fun _ _ _ h => h) (Or.inl ⟨by rfl, ?_⟩) ?_ ?_
        rotate_left
        · intro w'
          go_simp
          with_reducible rfl
        rotate_left
        · simp only [Act.put, List.setIfInBounds_toArray, List.set_cons_zero, List.set_cons_succ, i64_w, i32_w]
          rfl
        refine pure_ (i := 19) (N := some 138) (v := ?_) (a' := ?_) #[true, true, true, true, true, true, true, true, true, true, true, true, true, true, true, false, true, false, false, true, false, false, false, false, false, false, false, false, false, false, false, false, false, false, false, false, false, false] rfl rfl (by kernel_rfl) (fun _ _ _ h => h) (Or.inl ⟨by rfl, ?_⟩) ?_ ?_
        rotate_left
        · intro w'
          go_simp
          with_reducible rfl
        rotate_left
        · simp only [Act.put, List.setIfInBounds_toArray, List.set_cons_zero, List.set_cons_succ, i64_w, i32_w]
          rfl
        refine pure_ (i := 20) (N := some 139) (v := ?_) (a' := ?_) #[true, true, true, true, true, true, true, true, true, true, true, true, true, true, true, false, true, false, false, true, true, false, false, false, false, false, false, false, false, false, false, false, false, false, false, false, false, false] rfl rfl (by kernel_rfl) (fun _ _ _ h => h) (Or.inl ⟨by rfl, ?_⟩) ?_ ?_
        rotate_left
        · intro w'
          go_simp
          with_reducible rfl
        rotate_left
        · simp only [Act.put, List.setIfInBounds_toArray, List.set_cons_zero, List.set_cons_succ, i64_w, i32_w]
          rfl
        refine pure_ (i := 22) (N := some 141) (v := ?_) (a' := ?_) #[true, true, true, true, true, true, true, true, true, true, true, true, true, true, true, false, true, false, false, true, true, false, true, false, false, false, false, false, false, false, false, false, false, false, false, false, false, false] rfl rfl (by kernel_rfl) (fun _ _ _ h => h) (Or.inl ⟨by rfl, ?_⟩) ?_ ?_
        rotate_left
        · intro w'
          go_simp
          with_reducible rfl
        rotate_left
        · simp only [Act.put, List.setIfInBounds_toArray, List.set_cons_zero, List.set_cons_succ, i64_w, i32_w]
          rfl
        refine take_ (i := 15) (N := some 134) (v := ?_) (a' := ?_) #[true, true, true, true, true, true, true, true, true, true, true, true, true, true, true, true, true, false, false, true, true, false, true, false, false, false, false, false, false, false, false, false, false, false, false, false, false, false] rfl rfl (by kernel_rfl) (fun _ _ _ h => h) (Or.inl ⟨by rfl, ?_⟩) hHeld ?_ ?_
        rotate_left
        · rintro w' ⟨s0, s1⟩
          go_simp
          with_reducible rfl
        rotate_left
        · simp only [Act.put, List.setIfInBounds_toArray, List.set_cons_zero, List.set_cons_succ, i64_w, i32_w]
          rfl
        refine take_ (i := 17) (N := some 136) (v := ?_) (a' := ?_) #[true, true, true, true, true, true, true, true, true, true, true, true, true, true, true, true, true, true, false, true, true, false, true, false, false, false, false, false, false, false, false, false, false, false, false, false, false, false] rfl rfl (by kernel_rfl) (fun _ _ _ h => h) (Or.inl ⟨by rfl, ?_⟩) hHeld ?_ ?_
        rotate_left
        · rintro w' ⟨s0, s1⟩
          go_simp
          with_reducible rfl
        rotate_left
        · simp only [Act.put, List.setIfInBounds_toArray, List.set_cons_zero, List.set_cons_succ, i64_w, i32_w]
          rfl
        refine take_ (i := 21) (N := some 140) (v := ?_) (a' := ?_) #[true, true, true, true, true, true, true, true, true, true, true, true, true, true, true, true, true, true, false, true, true, true, true, false, false, false, false, false, false, false, false, false, false, false, false, false, false, false] rfl rfl (by kernel_rfl) (fun _ _ _ h => h) (Or.inl ⟨by rfl, ?_⟩) hHeld ?_ ?_
        rotate_left
        · rintro w' ⟨s0, s1⟩
          go_simp
          with_reducible rfl
        rotate_left
        · simp only [Act.put, List.setIfInBounds_toArray, List.set_cons_zero, List.set_cons_succ, i64_w, i32_w]
          rfl
        refine take_ (i := 23) (N := some 142) (v := ?_) (a' := ?_) #[true, true, true, true, true, true, true, true, true, true, true, true, true, true, true, true, true, true, false, true, true, true, true, true, false, false, false, false, false, false, false, false, false, false, false, false, false, false] rfl rfl (by kernel_rfl) (fun _ _ _ h => h) (Or.inl ⟨by rfl, ?_⟩) hHeld ?_ ?_
        rotate_left
        · rintro w' ⟨s0, s1⟩
          go_simp
          with_reducible rfl
        rotate_left
        · simp only [Act.put, List.setIfInBounds_toArray, List.set_cons_zero, List.set_cons_succ, i64_w, i32_w]
          rfl
        refine one_ (i := 18) (N := some 137) #[true, true, true, true, true, true, true, true, true, true, true, true, true, true, true, true, true, true, true, true, true, true, true, true, false, false, false, false, false, false, false, false, false, false, false, false, false, false] rfl rfl (by kernel_rfl) (by decide) (fun K hK => ?_)
        refine goes_ Try.func26 (by kernel_rfl) rfl #[.pointer (some ⟨g, 0, none⟩), .int .i64 x.f1, .int .i64 x.f2] (by rfl) rfl rfl (by simp only [List.map_toArray, List.map_cons, List.map_nil]; rfl) ?_
        with_reducible refine (db_Slot HD4.out x.f1 x.f2 HXi.out.1).mono ?_
        rintro e w5 ⟨rfl, hd5, hb5⟩
        refine ⟨_, rfl, ?_⟩
        have HD5 := Aside0.mk hd5
        clear hd5 hb5
        refine hK.out _ _ ⟨(HD5.out.cell 1).trans rfl, (HD5.out.cell 2).trans rfl⟩ (fun hHeld => ?_)
        clear hK K
        refine norm_ (a' := ?_) ?_ ?_
        rotate_left
        · show Act.put _ (some 137) _ = _
          simp only [Act.put, List.setIfInBounds_toArray, List.set_cons_zero, List.set_cons_succ, i64_w, i32_w]
          rfl
        refine one_ (i := 24) (N := some 143) #[true, true, true, true, true, true, true, true, true, true, true, true, true, true, true, true, true, true, true, true, true, true, true, true, true, false, false, false, false, false, false, false, false, false, false, false, false, false] rfl rfl (by kernel_rfl) (by decide) (fun K hK => ?_)
        refine goes_ Try.func27 (by kernel_rfl) rfl #[.slice A2 L2.length c2, .int .i64 x.f1, .int .i64 x.f2] (by rfl) rfl rfl (by simp only [List.map_toArray, List.map_cons, List.map_nil]; rfl) ?_
        with_reducible refine (db_rSlot HD5.out x.f1 x.f2 HXi.out.2).mono ?_
        rintro e w6 ⟨rfl, hd6, hb6⟩
        refine ⟨_, rfl, ?_⟩
        have HD6 := Aside0.mk hd6
        clear hd6 hb6
        refine hK.out _ _ ⟨(HD6.out.cell 1).trans rfl, (HD6.out.cell 2).trans rfl⟩ (fun hHeld => ?_)
        clear hK K
        refine norm_ (a' := ?_) ?_ ?_
        rotate_left
        · show Act.put _ (some 143) _ = _
          simp only [Act.put, List.setIfInBounds_toArray, List.set_cons_zero, List.set_cons_succ, i64_w, i32_w]
          rfl
        refine pure_ (i := 25) (N := some 144) (v := ?_) (a' := ?_) #[true, true, true, true, true, true, true, true, true, true, true, true, true, true, true, true, true, true, true, true, true, true, true, true, true, true, false, false, false, false, false, false, false, false, false, false, false, false] rfl rfl (by kernel_rfl) (fun _ _ _ h => h) (Or.inl ⟨by rfl, ?_⟩) ?_ ?_
        rotate_left
        · intro w'
          go_simp
          with_reducible rfl
        rotate_left
        · simp only [Act.put, List.setIfInBounds_toArray, List.set_cons_zero, List.set_cons_succ, i64_w, i32_w]
          rfl
        refine pure_ (i := 26) (N := some 145) (v := ?_) (a' := ?_) #[true, true, true, true, true, true, true, true, true, true, true, true, true, true, true, true, true, true, true, true, true, true, true, true, true, true, true, false, false, false, false, false, false, false, false, false, false, false] rfl rfl (by kernel_rfl) (fun _ _ _ h => h) (Or.inl ⟨by rfl, ?_⟩) ?_ ?_
        rotate_left
        · intro w'
          go_simp
          with_reducible rfl
        rotate_left
        · simp only [Act.put, List.setIfInBounds_toArray, List.set_cons_zero, List.set_cons_succ, i64_w, i32_w]
          rfl
        refine pure_ (i := 27) (N := some 146) (v := ?_) (a' := ?_) #[true, true, true, true, true, true, true, true, true, true, true, true, true, true, true, true, true, true, true, true, true, true, true, true, true, true, true, true, false, false, false, false, false, false, false, false, false, false] rfl rfl (by kernel_rfl) (fun _ _ _ h => h) (Or.inl ⟨by rfl, ?_⟩) ?_ ?_
        rotate_left
        · intro w'
          go_simp
          with_reducible rfl
        rotate_left
        · simp only [Act.put, List.setIfInBounds_toArray, List.set_cons_zero, List.set_cons_succ, i64_w, i32_w]
          rfl
        refine pure_ (i := 28) (N := some 147) (v := ?_) (a' := ?_) #[true, true, true, true, true, true, true, true, true, true, true, true, true, true, true, true, true, true, true, true, true, true, true, true, true, true, true, true, true, false, false, false, false, false, false, false, false, false] rfl rfl (by kernel_rfl) (fun _ _ _ h => h) (Or.inl ⟨by rfl, ?_⟩) ?_ ?_
        rotate_left
        · intro w'
          go_simp
          with_reducible rfl
        rotate_left
        · simp only [Act.put, List.setIfInBounds_toArray, List.set_cons_zero, List.set_cons_succ, i64_w, i32_w]
          rfl
        refine pure_ (i := 29) (N := some 148) (v := ?_) (a' := ?_) #[true, true, true, true, true, true, true, true, true, true, true, true, true, true, true, true, true, true, true, true, true, true, true, true, true, true, true, true, true, true, false, false, false, false, false, false, false, false] rfl rfl (by kernel_rfl) (fun _ _ _ h => h) (Or.inl ⟨by rfl, ?_⟩) ?_ ?_
        rotate_left
        · intro w'
          go_simp
          with_reducible rfl
        rotate_left
        · simp only [Act.put, List.setIfInBounds_toArray, List.set_cons_zero, List.set_cons_succ, i64_w, i32_w]
          rfl
        refine pure_ (i := 32) (N := some 151) (v := ?_) (a' := ?_) #[true, true, true, true, true, true, true, true, true, true, true, true, true, true, true, true, true, true, true, true, true, true, true, true, true, true, true, true, true, true, false, false, true, false, false, false, false, false] rfl rfl (by kernel_rfl) (fun _ _ _ h => h) (Or.inl ⟨by rfl, ?_⟩) ?_ ?_
        rotate_left
        · intro w'
          go_simp
          with_reducible rfl
        rotate_left
        · simp only [Act.put, List.setIfInBounds_toArray, List.set_cons_zero, List.set_cons_succ, i64_w, i32_w]
          rfl
        refine pure_ (i := 33) (N := some 152) (v := ?_) (a' := ?_) #[true, true, true, true, true, true, true, true, true, true, true, true, true, true, true, true, true, true, true, true, true, true, true, true, true, true, true, true, true, true, false, false, true, true, false, false, false, false] rfl rfl (by kernel_rfl) (fun _ _ _ h => h) (Or.inl ⟨by rfl, ?_⟩) ?_ ?_
        rotate_left
        · intro w'
          go_simp
          with_reducible rfl
        rotate_left
        · simp only [Act.put, List.setIfInBounds_toArray, List.set_cons_zero, List.set_cons_succ, i64_w, i32_w]
          rfl
        refine take_ (i := 30) (N := some 149) (v := ?_) (a' := ?_) #[true, true, true, true, true, true, true, true, true, true, true, true, true, true, true, true, true, true, true, true, true, true, true, true, true, true, true, true, true, true, true, false, true, true, false, false, false, false] rfl rfl (by kernel_rfl) (fun _ _ _ h => h) (Or.inl ⟨by rfl, ?_⟩) hHeld ?_ ?_
        rotate_left
        · rintro w' ⟨s0, s1⟩
          go_simp
          with_reducible rfl
        rotate_left
        · simp only [Act.put, List.setIfInBounds_toArray, List.set_cons_zero, List.set_cons_succ, i64_w, i32_w]
          rfl
        refine take_ (i := 34) (N := some 153) (v := ?_) (a' := ?_) #[true, true, true, true, true, true, true, true, true, true, true, true, true, true, true, true, true, true, true, true, true, true, true, true, true, true, true, true, true, true, true, false, true, true, true, false, false, false] rfl rfl (by kernel_rfl) (fun _ _ _ h => h) (Or.inl ⟨by rfl, ?_⟩) hHeld ?_ ?_
        rotate_left
        · rintro w' ⟨s0, s1⟩
          go_simp
          with_reducible rfl
        rotate_left
        · simp only [Act.put, List.setIfInBounds_toArray, List.set_cons_zero, List.set_cons_succ, i64_w, i32_w]
          rfl
        refine one_ (i := 31) (N := some 150) #[true, true, true, true, true, true, true, true, true, true, true, true, true, true, true, true, true, true, true, true, true, true, true, true, true, true, true, true, true, true, true, true, true, true, true, false, false, false] rfl rfl (by kernel_rfl) (by decide) (fun K hK => ?_)
        refine goes_ Try.func16 (by kernel_rfl) rfl #[.pointer (some ⟨g, 0, none⟩), .int .i64 x.f1] (by rfl) rfl rfl (by simp only [List.map_toArray, List.map_cons, List.map_nil]; rfl) ?_
        with_reducible refine (db_Shape HD6.out x.f1).mono ?_
        rintro e w7 ⟨rfl, hd7, hb7⟩
        refine ⟨_, rfl, ?_⟩
        have HD7 := Aside0.mk hd7
        clear hd7 hb7
        refine hK.out _ _ ⟨(HD7.out.cell 1).trans rfl, (HD7.out.cell 2).trans rfl⟩ (fun hHeld => ?_)
        clear hK K
        refine norm_ (a' := ?_) ?_ ?_
        rotate_left
        · show Act.put _ (some 150) _ = _
          simp only [Act.put, List.setIfInBounds_toArray, List.set_cons_zero, List.set_cons_succ, i64_w, i32_w]
          rfl
        refine one_ (i := 35) (N := some 154) #[true, true, true, true, true, true, true, true, true, true, true, true, true, true, true, true, true, true, true, true, true, true, true, true, true, true, true, true, true, true, true, true, true, true, true, true, false, false] rfl rfl (by kernel_rfl) (by decide) (fun K hK => ?_)
        refine goes_ Try.func28 (by kernel_rfl) rfl #[.slice A2 L2.length c2, .int .i64 x.f1] (by rfl) rfl rfl (by simp only [List.map_toArray, List.map_cons, List.map_nil]; rfl) ?_
        with_reducible refine (db_rShape HD7.out x.f1 HXi.out.2).mono ?_
        rintro e w8 ⟨rfl, hd8, hb8⟩
        refine ⟨_, rfl, ?_⟩
        have HD8 := Aside0.mk hd8
        clear hd8 hb8
        refine hK.out _ _ ⟨(HD8.out.cell 1).trans rfl, (HD8.out.cell 2).trans rfl⟩ (fun hHeld => ?_)
        clear hK K
        refine norm_ (a' := ?_) ?_ ?_
        rotate_left
        · show Act.put _ (some 154) _ = _
          simp only [Act.put, List.setIfInBounds_toArray, List.set_cons_zero, List.set_cons_succ, i64_w, i32_w]
          rfl
        refine pure_ (i := 36) (N := some 155) (v := ?_) (a' := ?_) #[true, true, true, true, true, true, true, true, true, true, true, true, true, true, true, true, true, true, true, true, true, true, true, true, true, true, true, true, true, true, true, true, true, true, true, true, true, false] rfl rfl (by kernel_rfl) (fun _ _ _ h => h) (Or.inl ⟨by rfl, ?_⟩) ?_ ?_
        rotate_left
        · intro w'
          go_simp
          with_reducible rfl
        rotate_left
        · simp only [Act.put, List.setIfInBounds_toArray, List.set_cons_zero, List.set_cons_succ, i64_w, i32_w]
          rfl
        refine pure_ (i := 37) (N := some 156) (v := ?_) (a' := ?_) #[true, true, true, true, true, true, true, true, true, true, true, true, true, true, true, true, true, true, true, true, true, true, true, true, true, true, true, true, true, true, true, true, true, true, true, true, true, true] rfl rfl (by kernel_rfl) (fun _ _ _ h => h) (Or.inl ⟨by rfl, ?_⟩) ?_ ?_
        rotate_left
        · intro w'
          go_simp
          with_reducible rfl
        rotate_left
        · simp only [Act.put, List.setIfInBounds_toArray, List.set_cons_zero, List.set_cons_succ, i64_w, i32_w]
          rfl
        refine done_ (by kernel_rfl) ?_
        go_wp2
        go_roundg (a0.length - (i + 1))
        case measure => have := HQ.out; have := HI2.out; omega
        case rel => exact ⟨i + 1, L2, A2, c2, by simp, rfl, ⟨by have := HI2.out; omega⟩, ⟨HL2.out⟩, ⟨HD8.out.noBox⟩, ⟨rfl⟩⟩
    · have c0b : decide ((i : Int) < (a0.length : Int)) = false := decide_eq_false (by omega)
      have c1b : decide (i < a0.length) = false := decide_eq_false hi
      have HGi : Aside0 (-9223372036854775808 ≤ a1 ∧ a1 ≤ 9223372036854775807) := ⟨HG.out.2⟩
      have hrl : (reachP L [a1, a2]).length ≤ 1000 := by
        have h1 := reach_len (L := L) (fun x hx => (HD.out.reads.2.2.1 x hx).ob) [a1, a2]
        have h2 := HD.out.reads.2.2.2
        omega
      have HRl := Aside0.mk hrl
      clear hi hrl HQ HLi HI
      go_wp2_with fail
      refine (db_Slot HD.out a1 a2 HGi.out.1).mono ?_
      rintro e w2 ⟨rfl, hd2, -⟩
      have HD2 := Aside0.mk hd2
      clear hd2 HD
      go_wp2_with fail
      refine (db_rSlot HD2.out a1 a2 HGi.out.2).mono ?_
      rintro e w3 ⟨rfl, hd3, -⟩
      have HD3 := Aside0.mk hd3
      clear hd3 HD2
      generalize slotP L a1 a2 = sl
      have sbt : (sl == sl) = true := by simp
      go_wp2_with fail
      have hb3 : Below w3.heap.size w3 (w3.alloc (.cells #[.int .i64 a1, .int .i64 a2] 3)) := below_alloc (Below.refl _ _) _
      refine (db_Reach (HD3.out.below hb3) (some ⟨w3.heap.size, 0, none⟩) 2 [a1, a2] (C_two w3 a1 a2)).mono ?_
      rintro e w4 ⟨⟨A4, rfl, hC4⟩, hb4⟩
      have HD4 := Aside0.mk ((HD3.out.below hb3).below hb4)
      have HC4 := Aside0.mk hC4
      clear hb3 hb4 hC4 HD3
      go_wp2_with fail
      have hb5 : Below w4.heap.size w4 (w4.alloc (.cells #[.int .i64 a1, .int .i64 a2] 3)) := below_alloc (Below.refl _ _) _
      refine (db_rReach (HD4.out.below hb5) (some ⟨w4.heap.size, 0, none⟩) 2 [a1, a2] (C_two w4 a1 a2) (by simp) (by simp)).mono ?_
      rintro e w5 ⟨⟨A5, c5, rfl, hl5, hC5⟩, hb5'⟩
      have HD5 := Aside0.mk ((HD4.out.below hb5).below hb5')
      have HC5 := Aside0.mk hC5
      have HC45 := Aside0.mk (Kd.C_below (Kd.C_below HC4.out hb5) hb5')
      have HL5 := Aside0.mk hl5
      clear hb5 hb5' hC5 hl5 HD4 HC4
      generalize reachP L [a1, a2] = rs at HRl HC5 HC45 HL5 ⊢
      obtain ⟨k, hk⟩ := (ints_ev rs HRl.out).rounds
      have HK := Aside0.mk hk
      clear hk
      go_wp2_with fail
      refine (turntableref05_Ints.calls k A4 rs.length rs A5 c5 rs true _ HC45.out (Nat.le_refl _) HC5.out HL5.out HK.out).mono ?_
      rintro e w6 ⟨rfl, hdr⟩
      have HB6 := Aside0.mk (below_step HD5.out.bel hdr.below)
      clear hdr
      go_wp2_with fail
      refine (pool_works.calls _).mono ?_
      rintro e w7 ⟨rfl, hb7⟩
      have HB7 := Aside0.mk (below_step HB6.out hb7)
      clear hb7
      go_wp2
      go_ret
      exact ⟨rfl, HB7.out⟩
end Go.Proofs.Ytcpomchijogblaa.PPo
