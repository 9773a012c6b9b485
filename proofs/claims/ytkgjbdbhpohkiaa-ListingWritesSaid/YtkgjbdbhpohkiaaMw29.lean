import Derived.Test.YtkgjbdbhpohkiaaMw22
import Derived.Test.YtkgjbdbhpohkiaaMw20
import Derived.Test.YtkgjbdbhpohkiaaMw25
import Derived.Test.YtkgjbdbhpohkiaaMw27
import Derived.Test.YtkgjbdbhpohkiaaMw28
-- from YtkgjbdbhpohkiaaHLWrites
section
namespace Go.Proofs.Ytkgjbdbhpohkiaa.PLi
open Go.RowKit Go.Proofs.YtkgjbdbhpohkiaaW.PrintWords Go.Proofs.YtkgjbdbhpohkiaaW.PrintLast Go.Proofs.YtkgjbdbhpohkiaaW.PrintMore Go.Proofs.Ytkgjbdbhpohkiaa.Str
set_option linter.unusedVariables false
set_option linter.unusedSimpArgs false
def lwOne (k : Nat) (x : S37) : Bool := match instS k x, turntableref37_Inst.f k x.f0 x.f1 x.f2 x.f3 x.f4 x.f5 x.f6.f0 x.f6.f1 with
  | some a, some b => a.toList == b.toList
  | _, _ => false
def lwAll (k : Nat) (l : List S33) : Bool := l.all fun f => decide (f.f2.length ≤ 140737488355328) && f.f2.all (lwOne k)
theorem lw_one (k : Nat) (x : S37) (h : lwOne k x = true) : ∃ a b, listing_Inst.f k x.f0 x.f1 x.f2 x.f3 x.f4 x.f5 x.f6.f0 x.f6.f1 = some a ∧ turntableref37_Inst.f k x.f0 x.f1 x.f2 x.f3 x.f4 x.f5 x.f6.f0 x.f6.f1 = some b ∧ (a.toList == b.toList) = true := by
  unfold lwOne at h
  split at h
  · rename_i a b h1 h2
    exact ⟨a, b, h1, h2, h⟩
  · cases h
theorem lw_at (k : Nat) (l : List S33) (h : lwAll k l = true) (x y : Int) (h0 : 0 ≤ x) (h1 : x < (l.length : Int)) : (rd_T33 l x).f2.length ≤ 140737488355328 ∧ (0 ≤ y → y < ((rd_T33 l x).f2.length : Int) → lwOne k (rd_T37 (rd_T33 l x).f2 y) = true) := by
  obtain ⟨n, rfl⟩ := Int.eq_ofNat_of_zero_le h0
  have hn : n < l.length := by omega
  have e2 : rd_T33 l (n : Int) = l[n] := by unfold rd_T33; rw [Int.toNat_natCast, List.getD_eq_getElem?_getD, List.getElem?_eq_getElem hn]; rfl
  have h3 := List.all_eq_true.mp h _ (List.getElem_mem hn)
  rw [← e2, Bool.and_eq_true] at h3
  refine ⟨of_decide_eq_true h3.1, fun h4 h5 => ?_⟩
  obtain ⟨m, rfl⟩ := Int.eq_ofNat_of_zero_le h4
  generalize rd_T33 l (n : Int) = f at *
  have hm : m < f.f2.length := by omega
  have e3 : rd_T37 f.f2 (m : Int) = f.f2[m] := by unfold rd_T37; rw [Int.toNat_natCast, List.getD_eq_getElem?_getD, List.getElem?_eq_getElem hm]; rfl
  rw [e3]
  exact List.all_eq_true.mp h3.2 _ (List.getElem_mem hm)
def turntablelaw37_ListingWrites.f (k : Nat) (l : List S33) (op : Int) : Option Bool :=
  (turntablelaw37_light.f k l).bind fun b => if b = false then some true else (turntableref33_Check.f k l).bind fun e => if e.1 = 0 then (listing_Word.f op).bind fun a => (turntableref37_Word.f op).bind fun a2 => (listing_Text.f k l).bind fun t => (turntableref37_Text.f k l).bind fun t2 =>
    if a.toList = a2.toList ∧ t.toList = t2.toList ∧ lwAll k l = true ∧ l.length ≤ 140737488355328 then some true else none else some true
set_option maxHeartbeats 8000000 in
set_option maxRecDepth 100000 in
theorem turntablelaw37_ListingWrites.calls (k : Nat) (A0 : Option Addr) (c0 : Nat) (l : List S33) (op : Int) (r : Bool) (w : World) (hr0 : Kd.C k33 w A0 l.length l) (hc0 : l.length ≤ c0) (h : turntablelaw37_ListingWrites.f k l op = some r) :
    Calls Try.prog 3 #[.slice A0 l.length c0, .int .i64 op] w fun e w' => e = .returned (.bool r) ∧ Below w.heap.size w w' := by
  have hu33 := Try.underlying33
  have hu37 := Try.underlying37
  have hu26 := Try.underlying26
  have hfl : ∀ (u0 u1 : Value) (W : World), (Instr.field 26 (.agg #[u0, u1]) 0).run Try.prog W = .ok (u0) W := fun _ _ _ => by show _ = _; kernel_rfl
  unfold turntablelaw37_ListingWrites.f at h
  have HC := Aside0.mk hr0
  have HL := Aside0.mk hc0
  have HB := Aside0.mk (Below.refl w.heap.size w)
  clear hr0 hc0
  replace h := Option.bind_eq_some_iff.mp h
  obtain ⟨b, hb_, h⟩ := h
  have HLI := Aside0.mk hb_
  clear hb_
  cases b with
  | false =>
    rw [if_pos rfl] at h
    obtain rfl := Option.some.inj h
    go_enter Try.func3, Try.ntmps3
    go_wp2_with fail
    refine (turntablelaw37_light.calls k A0 c0 l false _ HC.out HL.out HLI.out).mono ?_
    rintro e w1 ⟨rfl, hb0⟩
    have hb := hb0.below
    clear hb0
    have HB1 := Aside0.mk (below_step HB.out hb)
    clear hb
    go_wp2_with fail
    refine (turntablelaw37_works.calls true _ rfl).mono ?_
    rintro e w2 ⟨rfl, hb⟩
    have HB2 := Aside0.mk (below_step HB1.out hb)
    clear hb
    go_wp2
    go_ret
    exact ⟨rfl, HB2.out⟩
  | true =>
    rw [if_neg (by simp)] at h
    replace h := Option.bind_eq_some_iff.mp h
    obtain ⟨⟨e1, e2⟩, he, h⟩ := h
    have HE := Aside0.mk he
    clear he
    by_cases ce : e1 = 0
    rotate_left
    · rw [if_neg ce] at h
      obtain rfl := Option.some.inj h
      have g1 : (e1 != 0) = true := bne_iff_ne.mpr ce
      clear ce
      go_enter Try.func3, Try.ntmps3
      go_wp2_with fail
      refine (turntablelaw37_light.calls k A0 c0 l true _ HC.out HL.out HLI.out).mono ?_
      rintro e w1 ⟨rfl, hb0⟩
      have hb := hb0.below
      clear hb0
      have HB1 := Aside0.mk (below_step HB.out hb)
      have HC1 := Aside0.mk (Kd.C_below HC.out hb)
      clear hb
      go_wp2_with fail
      refine (turntableref33_Check.calls k A0 c0 l e1 e2 _ HC1.out HL.out HE.out).mono ?_
      rintro e w2 ⟨rfl, hb⟩
      have HB2 := Aside0.mk (below_step HB1.out hb)
      clear hb
      go_wp2_with fail
      refine (turntablelaw37_works.calls true _ rfl).mono ?_
      rintro e w3 ⟨rfl, hb⟩
      have HB3 := Aside0.mk (below_step HB2.out hb)
      clear hb
      go_wp2
      go_ret
      exact ⟨rfl, HB3.out⟩
    rw [if_pos ce] at h
    have g1 : (e1 != 0) = false := bne_eq_false_iff_eq.mpr ce
    clear ce
    replace h := Option.bind_eq_some_iff.mp h
    obtain ⟨a, ha, h⟩ := h
    replace h := Option.bind_eq_some_iff.mp h
    obtain ⟨a2, ha2, h⟩ := h
    replace h := Option.bind_eq_some_iff.mp h
    obtain ⟨t, ht, h⟩ := h
    replace h := Option.bind_eq_some_iff.mp h
    obtain ⟨t2, ht2, h⟩ := h
    by_cases hc : a.toList = a2.toList ∧ t.toList = t2.toList ∧ lwAll k l = true ∧ l.length ≤ 140737488355328
    rotate_left
    · rw [if_neg hc] at h
      cases h
    rw [if_pos hc] at h
    obtain rfl := Option.some.inj h
    have g2 : (a.toList == a2.toList) = true := beq_iff_eq.mpr hc.1
    have g2' : (a.toList != a2.toList) = false := by rw [hc.1]; simp
    have g3 : (t.toList == t2.toList) = true := beq_iff_eq.mpr hc.2.1
    have HAL := Aside0.mk hc.2.2.1
    have HLN := Aside0.mk hc.2.2.2
    have HA := Aside0.mk ha
    have HA2 := Aside0.mk ha2
    have HT := Aside0.mk ht
    have HT2 := Aside0.mk ht2
    clear ha ha2 ht ht2 h hc
    go_enter Try.func3, Try.ntmps3
    go_wp2_with fail
    refine (turntablelaw37_light.calls k A0 c0 l true _ HC.out HL.out HLI.out).mono ?_
    rintro e w1 ⟨rfl, hb0⟩
    have hb := hb0.below
    clear hb0
    have HB1 := Aside0.mk (below_step HB.out hb)
    have HC1 := Aside0.mk (Kd.C_below HC.out hb)
    clear hb
    go_wp2_with fail
    refine (turntableref33_Check.calls k A0 c0 l e1 e2 _ HC1.out HL.out HE.out).mono ?_
    rintro e w2 ⟨rfl, hb⟩
    have HB2 := Aside0.mk (below_step HB1.out hb)
    clear hb
    go_wp2_with fail
    refine (listing_Word.calls op a _ HA.out).mono ?_
    rintro e w3 ⟨rfl, hb⟩
    have HB3 := Aside0.mk (below_step HB2.out hb)
    clear hb
    go_wp2_with fail
    refine (turntableref37_Word.calls op a2 _ HA2.out).mono ?_
    rintro e w4 ⟨rfl, hb⟩
    have HB4 := Aside0.mk (below_step HB3.out hb)
    clear hb
    go_wp2
    (try simp only [Act.put, List.setIfInBounds_toArray, List.set_cons_zero, List.set_cons_succ])
    go_loopg [5] l.length (fun kq v5 w' => ∃ x : Int, v5 = .int .i64 x ∧ Aside0 (0 ≤ x ∧ x ≤ (l.length : Int)) ∧ Aside0 (Below w.heap.size w w') ∧ Aside0 (kq = l.length - x.toNat))
    case atStart => exact ⟨0, rfl, ⟨by omega⟩, ⟨HB4.out⟩, ⟨rfl⟩⟩
    case round =>
      clear HB1 HB2 HB3 HB4 HC1
      obtain ⟨x, rfl, HI, HBX, HQ⟩ := hrel
      by_cases hi : x < (l.length : Int)
      · have p1 : (0 ≤ x) = True := eq_true HI.out.1
        have q1 : (x < (l.length : Int)) = True := eq_true hi
        have d1_ : decide (x < (l.length : Int)) = true := decide_eq_true hi
        have HXI := Aside0.mk (show x + 1 ≤ (l.length : Int) by omega)
        have HLA := Aside0.mk (fun y => lw_at k l HAL.out x y HI.out.1 hi)
        obtain ⟨ad, A1, c1, A2, c2, e12, -, -, x2, -, -, l2, g2_⟩ := at_T33 HC.out x HI.out.1 hi
        subst e12
        have HX2 := Aside0.mk x2
        have HL2 := Aside0.mk l2
        have HG2 := Aside0.mk g2_
        clear hi x2 l2 g2_
        generalize rd_T33 l x = f at *
        go_wp2
        (try simp only [Act.put, List.setIfInBounds_toArray, List.set_cons_zero, List.set_cons_succ])
        go_loopg [6] f.f2.length (fun kq v6 w' => ∃ y : Int, v6 = .int .i64 y ∧ Aside0 (0 ≤ y ∧ y ≤ (f.f2.length : Int)) ∧ Aside0 (Below w.heap.size w w') ∧ Aside0 (kq = f.f2.length - y.toNat))
        case atStart => exact ⟨0, rfl, ⟨by omega⟩, ⟨HBX.out⟩, ⟨rfl⟩⟩
        case round =>
          clear HBX d1_
          obtain ⟨y, rfl, HJ, HBY, HR⟩ := hrel
          have x2 := (HBY.out.cell (World.block_lt_of_cell? w _ HX2.out)).trans HX2.out
          by_cases hj : y < (f.f2.length : Int)
          · have p2 : (0 ≤ y) = True := eq_true HJ.out.1
            have q2 : (y < (f.f2.length : Int)) = True := eq_true hj
            have d2_ : decide (y < (f.f2.length : Int)) = true := decide_eq_true hj
            have HXJ := Aside0.mk (show y + 1 ≤ (f.f2.length : Int) by omega)
            obtain ⟨sa, sb, hsa, hsb, hab⟩ := lw_one _ _ ((HLA.out y).2 HJ.out.1 hj)
            obtain ⟨ad2, A3, c3, e13, z0, z1, z2, z3, z4, z5, z6, z7, l3, g3_⟩ := at_T37 HG2.out y HJ.out.1 hj
            subst e13
            have HZ := Aside0.mk (And.intro z0 (And.intro z1 (And.intro z2 (And.intro z3 (And.intro z4 (And.intro z5 (And.intro z6 z7)))))))
            have HL3 := Aside0.mk l3
            have HG3 := Aside0.mk g3_
            have HSA := Aside0.mk hsa
            have HSB := Aside0.mk hsb
            have hab' : (sa.toList != sb.toList) = false := by rw [bne, hab]; rfl
            clear hj z0 z1 z2 z3 z4 z5 z6 z7 l3 g3_ hsa hsb
            generalize rd_T37 f.f2 y = u at *
            go_upto_region 11 with (fail)
            have HB5 := Aside0.mk (below_drew1 HBY.out)
            refine start_ (n := 19) (S := fun w' => w'.cell? ⟨(ad.add (x.toNat * 3)).block, (ad.add (x.toNat * 3)).off + 2, none⟩ = some (.slice (some ad2) f.f2.length c2) ∧ w'.cell? (ad2.add (y.toNat * 8)) = some (.int .i64 u.f0) ∧ w'.cell? ⟨(ad2.add (y.toNat * 8)).block, (ad2.add (y.toNat * 8)).off + 1, none⟩ = some (.int .i64 u.f1) ∧ w'.cell? ⟨(ad2.add (y.toNat * 8)).block, (ad2.add (y.toNat * 8)).off + 2, none⟩ = some (.int .i64 u.f2) ∧ w'.cell? ⟨(ad2.add (y.toNat * 8)).block, (ad2.add (y.toNat * 8)).off + 3, none⟩ = some (.int .i64 u.f3) ∧ w'.cell? ⟨(ad2.add (y.toNat * 8)).block, (ad2.add (y.toNat * 8)).off + 4, none⟩ = some (.int .i64 u.f4) ∧ w'.cell? ⟨(ad2.add (y.toNat * 8)).block, (ad2.add (y.toNat * 8)).off + 5, none⟩ = some (.slice A3 u.f5.length c3) ∧ w'.cell? ⟨(ad2.add (y.toNat * 8)).block, (ad2.add (y.toNat * 8)).off + 6, none⟩ = some (.int .i64 u.f6.f0) ∧ w'.cell? ⟨(ad2.add (y.toNat * 8)).block, (ad2.add (y.toNat * 8)).off + 7, none⟩ = some (.int .i64 u.f6.f1)) (ds := []) #[false, false, false, false, false, false, false, false, false, false, false, false, false, false, false, false, false, false, false] (by kernel_rfl) rfl rfl ⟨(HB5.out.cell (World.block_lt_of_cell? w _ HX2.out)).trans HX2.out, (HB5.out.cell (World.block_lt_of_cell? w _ HZ.out.1)).trans HZ.out.1, (HB5.out.cell (World.block_lt_of_cell? w _ HZ.out.2.1)).trans HZ.out.2.1, (HB5.out.cell (World.block_lt_of_cell? w _ HZ.out.2.2.1)).trans HZ.out.2.2.1, (HB5.out.cell (World.block_lt_of_cell? w _ HZ.out.2.2.2.1)).trans HZ.out.2.2.2.1, (HB5.out.cell (World.block_lt_of_cell? w _ HZ.out.2.2.2.2.1)).trans HZ.out.2.2.2.2.1, (HB5.out.cell (World.block_lt_of_cell? w _ HZ.out.2.2.2.2.2.1)).trans HZ.out.2.2.2.2.2.1, (HB5.out.cell (World.block_lt_of_cell? w _ HZ.out.2.2.2.2.2.2.1)).trans HZ.out.2.2.2.2.2.2.1, (HB5.out.cell (World.block_lt_of_cell? w _ HZ.out.2.2.2.2.2.2.2)).trans HZ.out.2.2.2.2.2.2.2⟩ (fun hHeld => ?_)
            refine pure_ (i := 0) (N := some 38) (v := ?_) (a' := ?_) #[true, false, false, false, false, false, false, false, false, false, false, false, false, false, false, false, false, false, false] rfl rfl (by kernel_rfl) (fun _ _ _ h => h) (Or.inl ⟨by rfl, ?_⟩) ?_ ?_
            rotate_left
            · intro w'
              go_simp
              with_reducible rfl
            rotate_left
            · simp only [Act.put, List.setIfInBounds_toArray, List.set_cons_zero, List.set_cons_succ, i64_w, i32_w]
              rfl
            refine pure_ (i := 1) (N := some 39) (v := ?_) (a' := ?_) #[true, true, false, false, false, false, false, false, false, false, false, false, false, false, false, false, false, false, false] rfl rfl (by kernel_rfl) (fun _ _ _ h => h) (Or.inl ⟨by rfl, ?_⟩) ?_ ?_
            rotate_left
            · intro w'
              go_simp
              with_reducible rfl
            rotate_left
            · simp only [Act.put, List.setIfInBounds_toArray, List.set_cons_zero, List.set_cons_succ, i64_w, i32_w]
              rfl
            refine pure_ (i := 2) (N := some 40) (v := ?_) (a' := ?_) #[true, true, true, false, false, false, false, false, false, false, false, false, false, false, false, false, false, false, false] rfl rfl (by kernel_rfl) (fun _ _ _ h => h) (Or.inl ⟨by rfl, ?_⟩) ?_ ?_
            rotate_left
            · intro w'
              go_simp
              with_reducible rfl
            rotate_left
            · simp only [Act.put, List.setIfInBounds_toArray, List.set_cons_zero, List.set_cons_succ, i64_w, i32_w]
              rfl
            refine pure_ (i := 3) (N := some 41) (v := ?_) (a' := ?_) #[true, true, true, true, false, false, false, false, false, false, false, false, false, false, false, false, false, false, false] rfl rfl (by kernel_rfl) (fun _ _ _ h => h) (Or.inl ⟨by rfl, ?_⟩) ?_ ?_
            rotate_left
            · intro w'
              go_simp
              with_reducible rfl
            rotate_left
            · simp only [Act.put, List.setIfInBounds_toArray, List.set_cons_zero, List.set_cons_succ, i64_w, i32_w]
              rfl
            refine pure_ (i := 5) (N := some 43) (v := ?_) (a' := ?_) #[true, true, true, true, false, true, false, false, false, false, false, false, false, false, false, false, false, false, false] rfl rfl (by kernel_rfl) (fun _ _ _ h => h) (Or.inl ⟨by rfl, ?_⟩) ?_ ?_
            rotate_left
            · intro w'
              go_simp
              with_reducible rfl
            rotate_left
            · simp only [Act.put, List.setIfInBounds_toArray, List.set_cons_zero, List.set_cons_succ, i64_w, i32_w]
              rfl
            refine pure_ (i := 9) (N := some 47) (v := ?_) (a' := ?_) #[true, true, true, true, false, true, false, false, false, true, false, false, false, false, false, false, false, false, false] rfl rfl (by kernel_rfl) (fun _ _ _ h => h) (Or.inl ⟨by rfl, ?_⟩) ?_ ?_
            rotate_left
            · intro w'
              go_simp
              with_reducible rfl
            rotate_left
            · simp only [Act.put, List.setIfInBounds_toArray, List.set_cons_zero, List.set_cons_succ, i64_w, i32_w]
              rfl
            refine pure_ (i := 10) (N := some 48) (v := ?_) (a' := ?_) #[true, true, true, true, false, true, false, false, false, true, true, false, false, false, false, false, false, false, false] rfl rfl (by kernel_rfl) (fun _ _ _ h => h) (Or.inl ⟨by rfl, ?_⟩) ?_ ?_
            rotate_left
            · intro w'
              go_simp
              with_reducible rfl
            rotate_left
            · simp only [Act.put, List.setIfInBounds_toArray, List.set_cons_zero, List.set_cons_succ, i64_w, i32_w]
              rfl
            refine pure_ (i := 11) (N := some 49) (v := ?_) (a' := ?_) #[true, true, true, true, false, true, false, false, false, true, true, true, false, false, false, false, false, false, false] rfl rfl (by kernel_rfl) (fun _ _ _ h => h) (Or.inl ⟨by rfl, ?_⟩) ?_ ?_
            rotate_left
            · intro w'
              go_simp
              with_reducible rfl
            rotate_left
            · simp only [Act.put, List.setIfInBounds_toArray, List.set_cons_zero, List.set_cons_succ, i64_w, i32_w]
              rfl
            refine pure_ (i := 12) (N := some 50) (v := ?_) (a' := ?_) #[true, true, true, true, false, true, false, false, false, true, true, true, true, false, false, false, false, false, false] rfl rfl (by kernel_rfl) (fun _ _ _ h => h) (Or.inl ⟨by rfl, ?_⟩) ?_ ?_
            rotate_left
            · intro w'
              go_simp
              with_reducible rfl
            rotate_left
            · simp only [Act.put, List.setIfInBounds_toArray, List.set_cons_zero, List.set_cons_succ, i64_w, i32_w]
              rfl
            refine pure_ (i := 14) (N := some 52) (v := ?_) (a' := ?_) #[true, true, true, true, false, true, false, false, false, true, true, true, true, false, true, false, false, false, false] rfl rfl (by kernel_rfl) (fun _ _ _ h => h) (Or.inl ⟨by rfl, ?_⟩) ?_ ?_
            rotate_left
            · intro w'
              go_simp
              with_reducible rfl
            rotate_left
            · simp only [Act.put, List.setIfInBounds_toArray, List.set_cons_zero, List.set_cons_succ, i64_w, i32_w]
              rfl
            refine take_ (i := 4) (N := some 42) (v := ?_) (a' := ?_) #[true, true, true, true, true, true, false, false, false, true, true, true, true, false, true, false, false, false, false] rfl rfl (by kernel_rfl) (fun _ _ _ h => h) (Or.inl ⟨by rfl, ?_⟩) hHeld ?_ ?_
            rotate_left
            · rintro w' ⟨s0, s1, s2, s3, s4, s5, s6, s7, s8⟩
              go_simp
              with_reducible rfl
            rotate_left
            · simp only [Act.put, List.setIfInBounds_toArray, List.set_cons_zero, List.set_cons_succ, i64_w, i32_w]
              rfl
            refine pure_ (i := 6) (N := some 44) (v := ?_) (a' := ?_) #[true, true, true, true, true, true, true, false, false, true, true, true, true, false, true, false, false, false, false] rfl rfl (by kernel_rfl) (fun _ _ _ h => h) (Or.inl ⟨by rfl, ?_⟩) ?_ ?_
            rotate_left
            · intro w'
              go_simp
              with_reducible rfl
            rotate_left
            · simp only [Act.put, List.setIfInBounds_toArray, List.set_cons_zero, List.set_cons_succ, i64_w, i32_w]
              rfl
            refine take_ (i := 7) (N := some 45) (v := ?_) (a' := ?_) #[true, true, true, true, true, true, true, true, false, true, true, true, true, false, true, false, false, false, false] rfl rfl (by kernel_rfl) (fun _ _ _ h => h) (Or.inl ⟨by rfl, ?_⟩) hHeld ?_ ?_
            rotate_left
            · rintro w' ⟨s0, s1, s2, s3, s4, s5, s6, s7, s8⟩
              go_simp
              with_reducible rfl
            rotate_left
            · simp only [Act.put, List.setIfInBounds_toArray, List.set_cons_zero, List.set_cons_succ, i64_w, i32_w]
              rfl
            refine take_ (i := 13) (N := some 51) (v := ?_) (a' := ?_) #[true, true, true, true, true, true, true, true, false, true, true, true, true, true, true, false, false, false, false] rfl rfl (by kernel_rfl) (fun _ _ _ h => h) (Or.inl ⟨by rfl, ?_⟩) hHeld ?_ ?_
            rotate_left
            · rintro w' ⟨s0, s1, s2, s3, s4, s5, s6, s7, s8⟩
              go_simp
              with_reducible rfl
            rotate_left
            · simp only [Act.put, List.setIfInBounds_toArray, List.set_cons_zero, List.set_cons_succ, i64_w, i32_w]
              rfl
            refine pure_ (i := 15) (N := some 53) (v := ?_) (a' := ?_) #[true, true, true, true, true, true, true, true, false, true, true, true, true, true, true, true, false, false, false] rfl rfl (by kernel_rfl) (fun _ _ _ h => h) (Or.inl ⟨by rfl, ?_⟩) ?_ ?_
            rotate_left
            · intro w'
              go_simp
              with_reducible rfl
            rotate_left
            · simp only [Act.put, List.setIfInBounds_toArray, List.set_cons_zero, List.set_cons_succ, i64_w, i32_w]
              rfl
            refine take_ (i := 16) (N := some 54) (v := ?_) (a' := ?_) #[true, true, true, true, true, true, true, true, false, true, true, true, true, true, true, true, true, false, false] rfl rfl (by kernel_rfl) (fun _ _ _ h => h) (Or.inl ⟨by rfl, ?_⟩) hHeld ?_ ?_
            rotate_left
            · rintro w' ⟨s0, s1, s2, s3, s4, s5, s6, s7, s8⟩
              go_simp
              with_reducible rfl
            rotate_left
            · simp only [Act.put, List.setIfInBounds_toArray, List.set_cons_zero, List.set_cons_succ, i64_w, i32_w]
              rfl
            refine one_ (i := 8) (N := some 46) #[true, true, true, true, true, true, true, true, true, true, true, true, true, true, true, true, true, false, false] rfl rfl (by kernel_rfl) (by decide) (fun K hK => ?_)
            refine goes_ Try.func12 (by kernel_rfl) rfl #[.agg #[.int .i64 u.f0, .int .i64 u.f1, .int .i64 u.f2, .int .i64 u.f3, .int .i64 u.f4, .slice A3 u.f5.length c3, .int .i64 u.f6.f0, .int .i64 u.f6.f1]] (by rfl) rfl rfl (by simp only [List.map_toArray, List.map_cons, List.map_nil]; rfl) ?_
            with_reducible refine (listing_Inst.calls k u.f0 u.f1 u.f2 u.f3 u.f4 A3 c3 u.f5 u.f6.f0 u.f6.f1 sa _ (Kd.C_below HG3.out HB5.out) HL3.out HSA.out).mono ?_
            rintro e w6 ⟨rfl, hb6⟩
            refine ⟨_, rfl, ?_⟩
            have HB6 := Aside0.mk (below_step HB5.out hb6)
            clear hb6
            refine hK.out _ _ ⟨(HB6.out.cell (World.block_lt_of_cell? w _ HX2.out)).trans HX2.out, (HB6.out.cell (World.block_lt_of_cell? w _ HZ.out.1)).trans HZ.out.1, (HB6.out.cell (World.block_lt_of_cell? w _ HZ.out.2.1)).trans HZ.out.2.1, (HB6.out.cell (World.block_lt_of_cell? w _ HZ.out.2.2.1)).trans HZ.out.2.2.1, (HB6.out.cell (World.block_lt_of_cell? w _ HZ.out.2.2.2.1)).trans HZ.out.2.2.2.1, (HB6.out.cell (World.block_lt_of_cell? w _ HZ.out.2.2.2.2.1)).trans HZ.out.2.2.2.2.1, (HB6.out.cell (World.block_lt_of_cell? w _ HZ.out.2.2.2.2.2.1)).trans HZ.out.2.2.2.2.2.1, (HB6.out.cell (World.block_lt_of_cell? w _ HZ.out.2.2.2.2.2.2.1)).trans HZ.out.2.2.2.2.2.2.1, (HB6.out.cell (World.block_lt_of_cell? w _ HZ.out.2.2.2.2.2.2.2)).trans HZ.out.2.2.2.2.2.2.2⟩ (fun hHeld => ?_)
            clear hK K
            refine norm_ (a' := ?_) ?_ ?_
            rotate_left
            · show Act.put _ (some 46) _ = _
              simp only [Act.put, List.setIfInBounds_toArray, List.set_cons_zero, List.set_cons_succ, i64_w, i32_w]
              rfl
            refine one_ (i := 17) (N := some 55) #[true, true, true, true, true, true, true, true, true, true, true, true, true, true, true, true, true, true, false] rfl rfl (by kernel_rfl) (by decide) (fun K hK => ?_)
            refine goes_ Try.func13 (by kernel_rfl) rfl #[.agg #[.int .i64 u.f0, .int .i64 u.f1, .int .i64 u.f2, .int .i64 u.f3, .int .i64 u.f4, .slice A3 u.f5.length c3, .int .i64 u.f6.f0, .int .i64 u.f6.f1]] (by rfl) rfl rfl (by simp only [List.map_toArray, List.map_cons, List.map_nil]; rfl) ?_
            with_reducible refine (turntableref37_Inst.calls k u.f0 u.f1 u.f2 u.f3 u.f4 A3 c3 u.f5 u.f6.f0 u.f6.f1 sb _ (Kd.C_below HG3.out HB6.out) HL3.out HSB.out).mono ?_
            rintro e w7 ⟨rfl, hb7⟩
            refine ⟨_, rfl, ?_⟩
            have HB7 := Aside0.mk (below_step HB6.out hb7)
            clear hb7
            refine hK.out _ _ ⟨(HB7.out.cell (World.block_lt_of_cell? w _ HX2.out)).trans HX2.out, (HB7.out.cell (World.block_lt_of_cell? w _ HZ.out.1)).trans HZ.out.1, (HB7.out.cell (World.block_lt_of_cell? w _ HZ.out.2.1)).trans HZ.out.2.1, (HB7.out.cell (World.block_lt_of_cell? w _ HZ.out.2.2.1)).trans HZ.out.2.2.1, (HB7.out.cell (World.block_lt_of_cell? w _ HZ.out.2.2.2.1)).trans HZ.out.2.2.2.1, (HB7.out.cell (World.block_lt_of_cell? w _ HZ.out.2.2.2.2.1)).trans HZ.out.2.2.2.2.1, (HB7.out.cell (World.block_lt_of_cell? w _ HZ.out.2.2.2.2.2.1)).trans HZ.out.2.2.2.2.2.1, (HB7.out.cell (World.block_lt_of_cell? w _ HZ.out.2.2.2.2.2.2.1)).trans HZ.out.2.2.2.2.2.2.1, (HB7.out.cell (World.block_lt_of_cell? w _ HZ.out.2.2.2.2.2.2.2)).trans HZ.out.2.2.2.2.2.2.2⟩ (fun hHeld => ?_)
            clear hK K
            refine norm_ (a' := ?_) ?_ ?_
            rotate_left
            · show Act.put _ (some 55) _ = _
              simp only [Act.put, List.setIfInBounds_toArray, List.set_cons_zero, List.set_cons_succ, i64_w, i32_w]
              rfl
            refine pure_ (i := 18) (N := some 56) (v := ?_) (a' := ?_) #[true, true, true, true, true, true, true, true, true, true, true, true, true, true, true, true, true, true, true] rfl rfl (by kernel_rfl) (fun _ _ _ h => h) (Or.inl ⟨by rfl, ?_⟩) ?_ ?_
            rotate_left
            · intro w'
              go_simp
              with_reducible rfl
            rotate_left
            · simp only [Act.put, List.setIfInBounds_toArray, List.set_cons_zero, List.set_cons_succ, i64_w, i32_w]
              rfl
            refine done_ (by kernel_rfl) ?_
            go_wp2
            go_roundg (f.f2.length - (y + 1).toNat)
            case measure => have := HR.out; have := HXJ.out; have := HJ.out; omega
            case rel => exact ⟨y + 1, by rw [show wrap64 (y + 1) = y + 1 from w64 (by have := HJ.out; omega) (by have := HXJ.out; have := (HLA.out 0).1; omega)], ⟨by have := HXJ.out; have := HJ.out; omega⟩, ⟨HB7.out⟩, ⟨rfl⟩⟩
          · have d2_ : decide (y < (f.f2.length : Int)) = false := decide_eq_false hj
            clear hj
            go_wp2
            go_roundg (l.length - (x + 1).toNat)
            case measure => have := HQ.out; have := HXI.out; have := HI.out; omega
            case rel => exact ⟨x + 1, by rw [show wrap64 (x + 1) = x + 1 from w64 (by have := HI.out; omega) (by have := HXI.out; have := HLN.out; omega)], ⟨by have := HXI.out; have := HI.out; omega⟩, ⟨HBY.out⟩, ⟨rfl⟩⟩
      · have d1_ : decide (x < (l.length : Int)) = false := decide_eq_false hi
        clear hi
        have HC5 := Aside0.mk (Kd.C_below HC.out HBX.out)
        go_wp2_with fail
        refine (listing_Text.calls k A0 c0 l t _ HC5.out HL.out HT.out).mono ?_
        rintro e w6 ⟨rfl, hb⟩
        have HB6 := Aside0.mk (below_step HBX.out hb)
        have HC6 := Aside0.mk (Kd.C_below HC5.out hb)
        clear hb
        go_wp2_with fail
        refine (turntableref37_Text.calls k A0 c0 l t2 _ HC6.out HL.out HT2.out).mono ?_
        rintro e w7 ⟨rfl, hb⟩
        have HB7 := Aside0.mk (below_step HB6.out hb)
        clear hb
        go_wp2_with fail
        refine (turntablelaw37_works.calls true _ rfl).mono ?_
        rintro e w8 ⟨rfl, hb⟩
        have HB8 := Aside0.mk (below_step HB7.out hb)
        clear hb
        go_wp2
        go_ret
        exact ⟨rfl, HB8.out⟩
end Go.Proofs.Ytkgjbdbhpohkiaa.PLi
end
