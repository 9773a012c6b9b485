import Derived.Test.YtkgjbdbhpohkiaaMw16
import Derived.Test.YtkgjbdbhpohkiaaMw14
import Derived.Test.YtkgjbdbhpohkiaaMw19
import Derived.Test.YtkgjbdbhpohkiaaMw21
import Derived.Test.YtkgjbdbhpohkiaaMw22
import Derived.ChangeArms
import Derived.ChangeOld
import Derived.OpenShut
import Derived.SizedLaws
import Derived.DataReads
import Derived.Test.YtkgjbdbhpohkiaaMw0
import Derived.KernelRfl
import Derived.Test.YtkgjbdbhpohkiaaMw8
import Derived.Test.YtkgjbdbhpohkiaaMw2
import Derived.Test.YtkgjbdbhpohkiaaMw13
-- from YtkgjbdbhpohkiaaHLWrites
section
namespace Go.Proofs.Ytkgjbdbhpohkiaa.PLi
open Go.RowKit Go.Proofs.YtkgjbdbhpohkiaaW.PrintWords Go.Proofs.YtkgjbdbhpohkiaaW.PrintLast Go.Proofs.YtkgjbdbhpohkiaaW.PrintMore Go.Proofs.Ytkgjbdbhpohkiaa.Str
set_option linter.unusedVariables false
set_option linter.unusedSimpArgs false
def lwOne (k : Nat) (x : S37) : Bool := match instS k x, turntableref37_Inst.f k x.f0 x.f1 x.f2 x.f3 x.f4 x.f5 x.f6.f0 x.f6.f1 with
  | some a, some b => a.toList == b.toList
  | _, _ => false
def lwAll (k : Nat) (l : List S33) : Bool := l.all fun f => decide (f.f2.length ≤ 140737488355328) && f.f2.all (lwOne k)
theorem lw_one (k : Nat) (x : S37) (h : lwOne k x = true) : ∃ a b, listing_Inst.f k x.f0 x.f1 x.f2 x.f3 x.f4 x.f5 x.f6.f0 x.f6.f1 = some a ∧ turntableref37_Inst.f k x.f0 x.f1 x.f2 x.f3 x.f4 x.f5 x.f6.f0 x.f6.f1 = some b ∧ (a.toList == b.toList) = true := by
  unfold lwOne at h
  split at h
  · rename_i a b h1 h2
    exact ⟨a, b, h1, h2, h⟩
  · cases h
theorem lw_at (k : Nat) (l : List S33) (h : lwAll k l = true) (x y : Int) (h0 : 0 ≤ x) (h1 : x < (l.length : Int)) : (rd_T33 l x).f2.length ≤ 140737488355328 ∧ (0 ≤ y → y < ((rd_T33 l x).f2.length : Int) → lwOne k (rd_T37 (rd_T33 l x).f2 y) = true) := by
  obtain ⟨n, rfl⟩ := Int.eq_ofNat_of_zero_le h0
  have hn : n < l.length := by omega
  have e2 : rd_T33 l (n : Int) = l[n] := by unfold rd_T33; rw [Int.toNat_natCast, List.getD_eq_getElem?_getD, List.getElem?_eq_getElem hn]; rfl
  have h3 := List.all_eq_true.mp h _ (List.getElem_mem hn)
  rw [← e2, Bool.and_eq_true] at h3
  refine ⟨of_decide_eq_true h3.1, fun h4 h5 => ?_⟩
  obtain ⟨m, rfl⟩ := Int.eq_ofNat_of_zero_le h4
  generalize rd_T33 l (n : Int) = f at *
  have hm : m < f.f2.length := by omega
  have e3 : rd_T37 f.f2 (m : Int) = f.f2[m] := by unfold rd_T37; rw [Int.toNat_natCast, List.getD_eq_getElem?_getD, List.getElem?_eq_getElem hm]; rfl
  rw [e3]
  exact List.all_eq_true.mp h3.2 _ (List.getElem_mem hm)
def turntablelaw37_ListingWrites.f (k : Nat) (l : List S33) (op : Int) : Option Bool :=
  (turntablelaw37_light.f k l).bind fun b => if b = false then some true else (turntableref33_Check.f k l).bind fun e => if e.1 = 0 then (listing_Word.f op).bind fun a => (turntableref37_Word.f op).bind fun a2 => (listing_Text.f k l).bind fun t => (turntableref37_Text.f k l).bind fun t2 =>
    if a.toList = a2.toList ∧ t.toList = t2.toList ∧ lwAll k l = true ∧ l.length ≤ 140737488355328 then some true else none else some true
set_option maxHeartbeats 8000000 in
set_option maxRecDepth 100000 in
theorem turntablelaw37_ListingWrites.calls (k : Nat) (A0 : Option Addr) (c0 : Nat) (l : List S33) (op : Int) (r : Bool) (w : World) (hr0 : Kd.C k33 w A0 l.length l) (hc0 : l.length ≤ c0) (h : turntablelaw37_ListingWrites.f k l op = some r) :
    Calls Try.prog 3 #[.slice A0 l.length c0, .int .i64 op] w fun e w' => e = .returned (.bool r) ∧ Below w.heap.size w w' := by
  have hu33 := Try.underlying33
  have hu37 := Try.underlying37
  have hu26 := Try.underlying26
  have hfl : ∀ (u0 u1 : Value) (W : World), (Instr.field 26 (.agg #[u0, u1]) 0).run Try.prog W = .ok (u0) W := fun _ _ _ => by show _ = _; kernel_rfl
  unfold turntablelaw37_ListingWrites.f at h
  have HC := Aside0.mk hr0
  have HL := Aside0.mk hc0
  have HB := Aside0.mk (Below.refl w.heap.size w)
  clear hr0 hc0
  replace h := Option.bind_eq_some_iff.mp h
  obtain ⟨b, hb_, h⟩ := h
  have HLI := Aside0.mk hb_
  clear hb_
  cases b with
  | false =>
    rw [if_pos rfl] at h
    obtain rfl := Option.some.inj h
    go_enter Try.func3, Try.ntmps3
    go_wp2_with fail
    refine (turntablelaw37_light.calls k A0 c0 l false _ HC.out HL.out HLI.out).mono ?_
    rintro e w1 ⟨rfl, hb0⟩
    have hb := hb0.below
    clear hb0
    have HB1 := Aside0.mk (below_step HB.out hb)
    clear hb
    go_wp2_with fail
    refine (turntablelaw37_works.calls true _ rfl).mono ?_
    rintro e w2 ⟨rfl, hb⟩
    have HB2 := Aside0.mk (below_step HB1.out hb)
    clear hb
    go_wp2
    go_ret
    exact ⟨rfl, HB2.out⟩
  | true =>
    rw [if_neg (by simp)] at h
    replace h := Option.bind_eq_some_iff.mp h
    obtain ⟨⟨e1, e2⟩, he, h⟩ := h
    have HE := Aside0.mk he
    clear he
    by_cases ce : e1 = 0
    rotate_left
    · rw [if_neg ce] at h
      obtain rfl := Option.some.inj h
      have g1 : (e1 != 0) = true := bne_iff_ne.mpr ce
      clear ce
      go_enter Try.func3, Try.ntmps3
      go_wp2_with fail
      refine (turntablelaw37_light.calls k A0 c0 l true _ HC.out HL.out HLI.out).mono ?_
      rintro e w1 ⟨rfl, hb0⟩
      have hb := hb0.below
      clear hb0
      have HB1 := Aside0.mk (below_step HB.out hb)
      have HC1 := Aside0.mk (Kd.C_below HC.out hb)
      clear hb
      go_wp2_with fail
      refine (turntableref33_Check.calls k A0 c0 l e1 e2 _ HC1.out HL.out HE.out).mono ?_
      rintro e w2 ⟨rfl, hb⟩
      have HB2 := Aside0.mk (below_step HB1.out hb)
      clear hb
      go_wp2_with fail
      refine (turntablelaw37_works.calls true _ rfl).mono ?_
      rintro e w3 ⟨rfl, hb⟩
      have HB3 := Aside0.mk (below_step HB2.out hb)
      clear hb
      go_wp2
      go_ret
      exact ⟨rfl, HB3.out⟩
    rw [if_pos ce] at h
    have g1 : (e1 != 0) = false := bne_eq_false_iff_eq.mpr ce
    clear ce
    replace h := Option.bind_eq_some_iff.mp h
    obtain ⟨a, ha, h⟩ := h
    replace h := Option.bind_eq_some_iff.mp h
    obtain ⟨a2, ha2, h⟩ := h
    replace h := Option.bind_eq_some_iff.mp h
    obtain ⟨t, ht, h⟩ := h
    replace h := Option.bind_eq_some_iff.mp h
    obtain ⟨t2, ht2, h⟩ := h
    by_cases hc : a.toList = a2.toList ∧ t.toList = t2.toList ∧ lwAll k l = true ∧ l.length ≤ 140737488355328
    rotate_left
    · rw [if_neg hc] at h
      cases h
    rw [if_pos hc] at h
    obtain rfl := Option.some.inj h
    have g2 : (a.toList == a2.toList) = true := beq_iff_eq.mpr hc.1
    have g2' : (a.toList != a2.toList) = false := by rw [hc.1]; simp
    have g3 : (t.toList == t2.toList) = true := beq_iff_eq.mpr hc.2.1
    have HAL := Aside0.mk hc.2.2.1
    have HLN := Aside0.mk hc.2.2.2
    have HA := Aside0.mk ha
    have HA2 := Aside0.mk ha2
    have HT := Aside0.mk ht
    have HT2 := Aside0.mk ht2
    clear ha ha2 ht ht2 h hc
    go_enter Try.func3, Try.ntmps3
    go_wp2_with fail
    refine (turntablelaw37_light.calls k A0 c0 l true _ HC.out HL.out HLI.out).mono ?_
    rintro e w1 ⟨rfl, hb0⟩
    have hb := hb0.below
    clear hb0
    have HB1 := Aside0.mk (below_step HB.out hb)
    have HC1 := Aside0.mk (Kd.C_below HC.out hb)
    clear hb
    go_wp2_with fail
    refine (turntableref33_Check.calls k A0 c0 l e1 e2 _ HC1.out HL.out HE.out).mono ?_
    rintro e w2 ⟨rfl, hb⟩
    have HB2 := Aside0.mk (below_step HB1.out hb)
    clear hb
    go_wp2_with fail
    refine (listing_Word.calls op a _ HA.out).mono ?_
    rintro e w3 ⟨rfl, hb⟩
    have HB3 := Aside0.mk (below_step HB2.out hb)
    clear hb
    go_wp2_with fail
    refine (turntableref37_Word.calls op a2 _ HA2.out).mono ?_
    rintro e w4 ⟨rfl, hb⟩
    have HB4 := Aside0.mk (below_step HB3.out hb)
    clear hb
    go_wp2
    (try simp only [Act.put, List.setIfInBounds_toArray, List.set_cons_zero, List.set_cons_succ])
    go_loopg [5] l.length (fun kq v5 w' => ∃ x : Int, v5 = .int .i64 x ∧ Aside0 (0 ≤ x ∧ x ≤ (l.length : Int)) ∧ Aside0 (Below w.heap.size w w') ∧ Aside0 (kq = l.length - x.toNat))
    case atStart => exact ⟨0, rfl, ⟨by omega⟩, ⟨HB4.out⟩, ⟨rfl⟩⟩
    case round =>
      clear HB1 HB2 HB3 HB4 HC1
      obtain ⟨x, rfl, HI, HBX, HQ⟩ := hrel
      by_cases hi : x < (l.length : Int)
      · have p1 : (0 ≤ x) = True := eq_true HI.out.1
        have q1 : (x < (l.length : Int)) = True := eq_true hi
        have d1_ : decide (x < (l.length : Int)) = true := decide_eq_true hi
        have HXI := Aside0.mk (show x + 1 ≤ (l.length : Int) by omega)
        have HLA := Aside0.mk (fun y => lw_at k l HAL.out x y HI.out.1 hi)
        obtain ⟨ad, A1, c1, A2, c2, e12, -, -, x2, -, -, l2, g2_⟩ := at_T33 HC.out x HI.out.1 hi
        subst e12
        have HX2 := Aside0.mk x2
        have HL2 := Aside0.mk l2
        have HG2 := Aside0.mk g2_
        clear hi x2 l2 g2_
        generalize rd_T33 l x = f at *
        go_wp2
        (try simp only [Act.put, List.setIfInBounds_toArray, List.set_cons_zero, List.set_cons_succ])
        go_loopg [6] f.f2.length (fun kq v6 w' => ∃ y : Int, v6 = .int .i64 y ∧ Aside0 (0 ≤ y ∧ y ≤ (f.f2.length : Int)) ∧ Aside0 (Below w.heap.size w w') ∧ Aside0 (kq = f.f2.length - y.toNat))
        case atStart => exact ⟨0, rfl, ⟨by omega⟩, ⟨HBX.out⟩, ⟨rfl⟩⟩
        case round =>
          clear HBX d1_
          obtain ⟨y, rfl, HJ, HBY, HR⟩ := hrel
          have x2 := (HBY.out.cell (World.block_lt_of_cell? w _ HX2.out)).trans HX2.out
          by_cases hj : y < (f.f2.length : Int)
          · have p2 : (0 ≤ y) = True := eq_true HJ.out.1
            have q2 : (y < (f.f2.length : Int)) = True := eq_true hj
            have d2_ : decide (y < (f.f2.length : Int)) = true := decide_eq_true hj
            have HXJ := Aside0.mk (show y + 1 ≤ (f.f2.length : Int) by omega)
            obtain ⟨sa, sb, hsa, hsb, hab⟩ := lw_one _ _ ((HLA.out y).2 HJ.out.1 hj)
            obtain ⟨ad2, A3, c3, e13, z0, z1, z2, z3, z4, z5, z6, z7, l3, g3_⟩ := at_T37 HG2.out y HJ.out.1 hj
            subst e13
            have HZ := Aside0.mk (And.intro z0 (And.intro z1 (And.intro z2 (And.intro z3 (And.intro z4 (And.intro z5 (And.intro z6 z7)))))))
            have HL3 := Aside0.mk l3
            have HG3 := Aside0.mk g3_
            have HSA := Aside0.mk hsa
            have HSB := Aside0.mk hsb
            have hab' : (sa.toList != sb.toList) = false := by rw [bne, hab]; rfl
            clear hj z0 z1 z2 z3 z4 z5 z6 z7 l3 g3_ hsa hsb
            generalize rd_T37 f.f2 y = u at *
            go_upto_region 11 with (fail)
            have HB5 := Aside0.mk (below_drew1 HBY.out)
            refine start_ (n := 19) (S := fun w' => w'.cell? ⟨(ad.add (x.toNat * 3)).block, (ad.add (x.toNat * 3)).off + 2, none⟩ = some (.slice (some ad2) f.f2.length c2) ∧ w'.cell? (ad2.add (y.toNat * 8)) = some (.int .i64 u.f0) ∧ w'.cell? ⟨(ad2.add (y.toNat * 8)).block, (ad2.add (y.toNat * 8)).off + 1, none⟩ = some (.int .i64 u.f1) ∧ w'.cell? ⟨(ad2.add (y.toNat * 8)).block, (ad2.add (y.toNat * 8)).off + 2, none⟩ = some (.int .i64 u.f2) ∧ w'.cell? ⟨(ad2.add (y.toNat * 8)).block, (ad2.add (y.toNat * 8)).off + 3, none⟩ = some (.int .i64 u.f3) ∧ w'.cell? ⟨(ad2.add (y.toNat * 8)).block, (ad2.add (y.toNat * 8)).off + 4, none⟩ = some (.int .i64 u.f4) ∧ w'.cell? ⟨(ad2.add (y.toNat * 8)).block, (ad2.add (y.toNat * 8)).off + 5, none⟩ = some (.slice A3 u.f5.length c3) ∧ w'.cell? ⟨(ad2.add (y.toNat * 8)).block, (ad2.add (y.toNat * 8)).off + 6, none⟩ = some (.int .i64 u.f6.f0) ∧ w'.cell? ⟨(ad2.add (y.toNat * 8)).block, (ad2.add (y.toNat * 8)).off + 7, none⟩ = some (.int .i64 u.f6.f1)) (ds := []) #[false, false, false, false, false, false, false, false, false, false, false, false, false, false, false, false, false, false, false] (by kernel_rfl) rfl rfl ⟨(HB5.out.cell (World.block_lt_of_cell? w _ HX2.out)).trans HX2.out, (HB5.out.cell (World.block_lt_of_cell? w _ HZ.out.1)).trans HZ.out.1, (HB5.out.cell (World.block_lt_of_cell? w _ HZ.out.2.1)).trans HZ.out.2.1, (HB5.out.cell (World.block_lt_of_cell? w _ HZ.out.2.2.1)).trans HZ.out.2.2.1, (HB5.out.cell (World.block_lt_of_cell? w _ HZ.out.2.2.2.1)).trans HZ.out.2.2.2.1, (HB5.out.cell (World.block_lt_of_cell? w _ HZ.out.2.2.2.2.1)).trans HZ.out.2.2.2.2.1, (HB5.out.cell (World.block_lt_of_cell? w _ HZ.out.2.2.2.2.2.1)).trans HZ.out.2.2.2.2.2.1, (HB5.out.cell (World.block_lt_of_cell? w _ HZ.out.2.2.2.2.2.2.1)).trans HZ.out.2.2.2.2.2.2.1, (HB5.out.cell (World.block_lt_of_cell? w _ HZ.out.2.2.2.2.2.2.2)).trans HZ.out.2.2.2.2.2.2.2⟩ (fun hHeld => ?_)
            refine pure_ (i := 0) (N := some 38) (v := ?_) (a' := ?_) #[true, false, false, false, false, false, false, false, false, false, false, false, false, false, false, false, false, false, false] rfl rfl (by kernel_rfl) (fun _ _ _ h => h) (Or.inl ⟨by rfl, ?_⟩) ?_ ?_
            rotate_left
            · intro w'
              go_simp
              with_reducible rfl
            rotate_left
            · simp only [Act.put, List.setIfInBounds_toArray, List.set_cons_zero, List.set_cons_succ, i64_w, i32_w]
              rfl
            refine pure_ (i := 1) (N := some 39) (v := ?_) (a' := ?_) #[true, true, false, false, false, false, false, false, false, false, false, false, false, false, false, false, false, false, false] rfl rfl (by kernel_rfl) (fun _ _ _ h => h) (Or.inl ⟨by rfl, ?_⟩) ?_ ?_
            rotate_left
            · intro w'
              go_simp
              with_reducible rfl
            rotate_left
            · simp only [Act.put, List.setIfInBounds_toArray, List.set_cons_zero, List.set_cons_succ, i64_w, i32_w]
              rfl
            refine pure_ (i := 2) (N := some 40) (v := ?_) (a' := ?_) #[true, true, true, false, false, false, false, false, false, false, false, false, false, false, false, false, false, false, false] rfl rfl (by kernel_rfl) (fun _ _ _ h => h) (Or.inl ⟨by rfl, ?_⟩) ?_ ?_
            rotate_left
            · intro w'
              go_simp
              with_reducible rfl
            rotate_left
            · simp only [Act.put, List.setIfInBounds_toArray, List.set_cons_zero, List.set_cons_succ, i64_w, i32_w]
              rfl
            refine pure_ (i := 3) (N := some 41) (v := ?_) (a' := ?_) #[true, true, true, true, false, false, false, false, false, false, false, false, false, false, false, false, false, false, false] rfl rfl (by kernel_rfl) (fun _ _ _ h => h) (Or.inl ⟨by rfl, ?_⟩) ?_ ?_
            rotate_left
            · intro w'
              go_simp
              with_reducible rfl
            rotate_left
            · simp only [Act.put, List.setIfInBounds_toArray, List.set_cons_zero, List.set_cons_succ, i64_w, i32_w]
              rfl
            refine pure_ (i := 5) (N := some 43) (v := ?_) (a' := ?_) #[true, true, true, true, false, true, false, false, false, false, false, false, false, false, false, false, false, false, false] rfl rfl (by kernel_rfl) (fun _ _ _ h => h) (Or.inl ⟨by rfl, ?_⟩) ?_ ?_
            rotate_left
            · intro w'
              go_simp
              with_reducible rfl
            rotate_left
            · simp only [Act.put, List.setIfInBounds_toArray, List.set_cons_zero, List.set_cons_succ, i64_w, i32_w]
              rfl
            refine pure_ (i := 9) (N := some 47) (v := ?_) (a' := ?_) #[true, true, true, true, false, true, false, false, false, true, false, false, false, false, false, false, false, false, false] rfl rfl (by kernel_rfl) (fun _ _ _ h => h) (Or.inl ⟨by rfl, ?_⟩) ?_ ?_
            rotate_left
            · intro w'
              go_simp
              with_reducible rfl
            rotate_left
            · simp only [Act.put, List.setIfInBounds_toArray, List.set_cons_zero, List.set_cons_succ, i64_w, i32_w]
              rfl
            refine pure_ (i := 10) (N := some 48) (v := ?_) (a' := ?_) #[true, true, true, true, false, true, false, false, false, true, true, false, false, false, false, false, false, false, false] rfl rfl (by kernel_rfl) (fun _ _ _ h => h) (Or.inl ⟨by rfl, ?_⟩) ?_ ?_
            rotate_left
            · intro w'
              go_simp
              with_reducible rfl
            rotate_left
            · simp only [Act.put, List.setIfInBounds_toArray, List.set_cons_zero, List.set_cons_succ, i64_w, i32_w]
              rfl
            refine pure_ (i := 11) (N := some 49) (v := ?_) (a' := ?_) #[true, true, true, true, false, true, false, false, false, true, true, true, false, false, false, false, false, false, false] rfl rfl (by kernel_rfl) (fun _ _ _ h => h) (Or.inl ⟨by rfl, ?_⟩) ?_ ?_
            rotate_left
            · intro w'
              go_simp
              with_reducible rfl
            rotate_left
            · simp only [Act.put, List.setIfInBounds_toArray, List.set_cons_zero, List.set_cons_succ, i64_w, i32_w]
              rfl
            refine pure_ (i := 12) (N := some 50) (v := ?_) (a' := ?_) #[true, true, true, true, false, true, false, false, false, true, true, true, true, false, false, false, false, false, false] rfl rfl (by kernel_rfl) (fun _ _ _ h => h) (Or.inl ⟨by rfl, ?_⟩) ?_ ?_
            rotate_left
            · intro w'
              go_simp
              with_reducible rfl
            rotate_left
            · simp only [Act.put, List.setIfInBounds_toArray, List.set_cons_zero, List.set_cons_succ, i64_w, i32_w]
              rfl
            refine pure_ (i := 14) (N := some 52) (v := ?_) (a' := ?_) #[true, true, true, true, false, true, false, false, false, true, true, true, true, false, true, false, false, false, false] rfl rfl (by kernel_rfl) (fun _ _ _ h => h) (Or.inl ⟨by rfl, ?_⟩) ?_ ?_
            rotate_left
            · intro w'
              go_simp
              with_reducible rfl
            rotate_left
            · simp only [Act.put, List.setIfInBounds_toArray, List.set_cons_zero, List.set_cons_succ, i64_w, i32_w]
              rfl
            refine take_ (i := 4) (N := some 42) (v := ?_) (a' := ?_) #[true, true, true, true, true, true, false, false, false, true, true, true, true, false, true, false, false, false, false] rfl rfl (by kernel_rfl) (fun _ _ _ h => h) (Or.inl ⟨by rfl, ?_⟩) hHeld ?_ ?_
            rotate_left
            · rintro w' ⟨s0, s1, s2, s3, s4, s5, s6, s7, s8⟩
              go_simp
              with_reducible rfl
            rotate_left
            · simp only [Act.put, List.setIfInBounds_toArray, List.set_cons_zero, List.set_cons_succ, i64_w, i32_w]
              rfl
            refine pure_ (i := 6) (N := some 44) (v := ?_) (a' := ?_) #[true, true, true, true, true, true, true, false, false, true, true, true, true, false, true, false, false, false, false] rfl rfl (by kernel_rfl) (fun _ _ _ h => h) (Or.inl ⟨by rfl, ?_⟩) ?_ ?_
            rotate_left
            · intro w'
              go_simp
              with_reducible rfl
            rotate_left
            · simp only [Act.put, List.setIfInBounds_toArray, List.set_cons_zero, List.set_cons_succ, i64_w, i32_w]
              rfl
            refine take_ (i := 7) (N := some 45) (v := ?_) (a' := ?_) #[true, true, true, true, true, true, true, true, false, true, true, true, true, false, true, false, false, false, false] rfl rfl (by kernel_rfl) (fun _ _ _ h => h) (Or.inl ⟨by rfl, ?_⟩) hHeld ?_ ?_
            rotate_left
            · rintro w' ⟨s0, s1, s2, s3, s4, s5, s6, s7, s8⟩
              go_simp
              with_reducible rfl
            rotate_left
            · simp only [Act.put, List.setIfInBounds_toArray, List.set_cons_zero, List.set_cons_succ, i64_w, i32_w]
              rfl
            refine take_ (i := 13) (N := some 51) (v := ?_) (a' := ?_) #[true, true, true, true, true, true, true, true, false, true, true, true, true, true, true, false, false, false, false] rfl rfl (by kernel_rfl) (fun _ _ _ h => h) (Or.inl ⟨by rfl, ?_⟩) hHeld ?_ ?_
            rotate_left
            · rintro w' ⟨s0, s1, s2, s3, s4, s5, s6, s7, s8⟩
              go_simp
              with_reducible rfl
            rotate_left
            · simp only [Act.put, List.setIfInBounds_toArray, List.set_cons_zero, List.set_cons_succ, i64_w, i32_w]
              rfl
            refine pure_ (i := 15) (N := some 53) (v := ?_) (a' := ?_) #[true, true, true, true, true, true, true, true, false, true, true, true, true, true, true, true, false, false, false] rfl rfl (by kernel_rfl) (fun _ _ _ h => h) (Or.inl ⟨by rfl, ?_⟩) ?_ ?_
            rotate_left
            · intro w'
              go_simp
              with_reducible rfl
            rotate_left
            · simp only [Act.put, List.setIfInBounds_toArray, List.set_cons_zero, List.set_cons_succ, i64_w, i32_w]
              rfl
            refine take_ (i := 16) (N := some 54) (v := ?_) (a' := ?_) #[true, true, true, true, true, true, true, true, false, true, true, true, true, true, true, true, true, false, false] rfl rfl (by kernel_rfl) (fun _ _ _ h => h) (Or.inl ⟨by rfl, ?_⟩) hHeld ?_ ?_
            rotate_left
            · rintro w' ⟨s0, s1, s2, s3, s4, s5, s6, s7, s8⟩
              go_simp
              with_reducible rfl
            rotate_left
            · simp only [Act.put, List.setIfInBounds_toArray, List.set_cons_zero, List.set_cons_succ, i64_w, i32_w]
              rfl
            refine one_ (i := 8) (N := some 46) #[true, true, true, true, true, true, true, true, true, true, true, true, true, true, true, true, true, false, false] rfl rfl (by kernel_rfl) (by decide) (fun K hK => ?_)
            refine goes_ Try.func12 (by kernel_rfl) rfl #[.agg #[.int .i64 u.f0, .int .i64 u.f1, .int .i64 u.f2, .int .i64 u.f3, .int .i64 u.f4, .slice A3 u.f5.length c3, .int .i64 u.f6.f0, .int .i64 u.f6.f1]] (by rfl) rfl rfl (by simp only [List.map_toArray, List.map_cons, List.map_nil]; rfl) ?_
            with_reducible refine (listing_Inst.calls k u.f0 u.f1 u.f2 u.f3 u.f4 A3 c3 u.f5 u.f6.f0 u.f6.f1 sa _ (Kd.C_below HG3.out HB5.out) HL3.out HSA.out).mono ?_
            rintro e w6 ⟨rfl, hb6⟩
            refine ⟨_, rfl, ?_⟩
            have HB6 := Aside0.mk (below_step HB5.out hb6)
            clear hb6
            refine hK.out _ _ ⟨(HB6.out.cell (World.block_lt_of_cell? w _ HX2.out)).trans HX2.out, (HB6.out.cell (World.block_lt_of_cell? w _ HZ.out.1)).trans HZ.out.1, (HB6.out.cell (World.block_lt_of_cell? w _ HZ.out.2.1)).trans HZ.out.2.1, (HB6.out.cell (World.block_lt_of_cell? w _ HZ.out.2.2.1)).trans HZ.out.2.2.1, (HB6.out.cell (World.block_lt_of_cell? w _ HZ.out.2.2.2.1)).trans HZ.out.2.2.2.1, (HB6.out.cell (World.block_lt_of_cell? w _ HZ.out.2.2.2.2.1)).trans HZ.out.2.2.2.2.1, (HB6.out.cell (World.block_lt_of_cell? w _ HZ.out.2.2.2.2.2.1)).trans HZ.out.2.2.2.2.2.1, (HB6.out.cell (World.block_lt_of_cell? w _ HZ.out.2.2.2.2.2.2.1)).trans HZ.out.2.2.2.2.2.2.1, (HB6.out.cell (World.block_lt_of_cell? w _ HZ.out.2.2.2.2.2.2.2)).trans HZ.out.2.2.2.2.2.2.2⟩ (fun hHeld => ?_)
            clear hK K
            refine norm_ (a' := ?_) ?_ ?_
            rotate_left
            · show Act.put _ (some 46) _ = _
              simp only [Act.put, List.setIfInBounds_toArray, List.set_cons_zero, List.set_cons_succ, i64_w, i32_w]
              rfl
            refine one_ (i := 17) (N := some 55) #[true, true, true, true, true, true, true, true, true, true, true, true, true, true, true, true, true, true, false] rfl rfl (by kernel_rfl) (by decide) (fun K hK => ?_)
            refine goes_ Try.func13 (by kernel_rfl) rfl #[.agg #[.int .i64 u.f0, .int .i64 u.f1, .int .i64 u.f2, .int .i64 u.f3, .int .i64 u.f4, .slice A3 u.f5.length c3, .int .i64 u.f6.f0, .int .i64 u.f6.f1]] (by rfl) rfl rfl (by simp only [List.map_toArray, List.map_cons, List.map_nil]; rfl) ?_
            with_reducible refine (turntableref37_Inst.calls k u.f0 u.f1 u.f2 u.f3 u.f4 A3 c3 u.f5 u.f6.f0 u.f6.f1 sb _ (Kd.C_below HG3.out HB6.out) HL3.out HSB.out).mono ?_
            rintro e w7 ⟨rfl, hb7⟩
            refine ⟨_, rfl, ?_⟩
            have HB7 := Aside0.mk (below_step HB6.out hb7)
            clear hb7
            refine hK.out _ _ ⟨(HB7.out.cell (World.block_lt_of_cell? w _ HX2.out)).trans HX2.out, (HB7.out.cell (World.block_lt_of_cell? w _ HZ.out.1)).trans HZ.out.1, (HB7.out.cell (World.block_lt_of_cell? w _ HZ.out.2.1)).trans HZ.out.2.1, (HB7.out.cell (World.block_lt_of_cell? w _ HZ.out.2.2.1)).trans HZ.out.2.2.1, (HB7.out.cell (World.block_lt_of_cell? w _ HZ.out.2.2.2.1)).trans HZ.out.2.2.2.1, (HB7.out.cell (World.block_lt_of_cell? w _ HZ.out.2.2.2.2.1)).trans HZ.out.2.2.2.2.1, (HB7.out.cell (World.block_lt_of_cell? w _ HZ.out.2.2.2.2.2.1)).trans HZ.out.2.2.2.2.2.1, (HB7.out.cell (World.block_lt_of_cell? w _ HZ.out.2.2.2.2.2.2.1)).trans HZ.out.2.2.2.2.2.2.1, (HB7.out.cell (World.block_lt_of_cell? w _ HZ.out.2.2.2.2.2.2.2)).trans HZ.out.2.2.2.2.2.2.2⟩ (fun hHeld => ?_)
            clear hK K
            refine norm_ (a' := ?_) ?_ ?_
            rotate_left
            · show Act.put _ (some 55) _ = _
              simp only [Act.put, List.setIfInBounds_toArray, List.set_cons_zero, List.set_cons_succ, i64_w, i32_w]
              rfl
            refine pure_ (i := 18) (N := some 56) (v := ?_) (a' := ?_) #[true, true, true, true, true, true, true, true, true, true, true, true, true, true, true, true, true, true, true] rfl rfl (by kernel_rfl) (fun _ _ _ h => h) (Or.inl ⟨by rfl, ?_⟩) ?_ ?_
            rotate_left
            · intro w'
              go_simp
              with_reducible rfl
            rotate_left
            · simp only [Act.put, List.setIfInBounds_toArray, List.set_cons_zero, List.set_cons_succ, i64_w, i32_w]
              rfl
            refine done_ (by kernel_rfl) ?_
            go_wp2
            go_roundg (f.f2.length - (y + 1).toNat)
            case measure => have := HR.out; have := HXJ.out; have := HJ.out; omega
            case rel => exact ⟨y + 1, by rw [show wrap64 (y + 1) = y + 1 from w64 (by have := HJ.out; omega) (by have := HXJ.out; have := (HLA.out 0).1; omega)], ⟨by have := HXJ.out; have := HJ.out; omega⟩, ⟨HB7.out⟩, ⟨rfl⟩⟩
          · have d2_ : decide (y < (f.f2.length : Int)) = false := decide_eq_false hj
            clear hj
            go_wp2
            go_roundg (l.length - (x + 1).toNat)
            case measure => have := HQ.out; have := HXI.out; have := HI.out; omega
            case rel => exact ⟨x + 1, by rw [show wrap64 (x + 1) = x + 1 from w64 (by have := HI.out; omega) (by have := HXI.out; have := HLN.out; omega)], ⟨by have := HXI.out; have := HI.out; omega⟩, ⟨HBY.out⟩, ⟨rfl⟩⟩
      · have d1_ : decide (x < (l.length : Int)) = false := decide_eq_false hi
        clear hi
        have HC5 := Aside0.mk (Kd.C_below HC.out HBX.out)
        go_wp2_with fail
        refine (listing_Text.calls k A0 c0 l t _ HC5.out HL.out HT.out).mono ?_
        rintro e w6 ⟨rfl, hb⟩
        have HB6 := Aside0.mk (below_step HBX.out hb)
        have HC6 := Aside0.mk (Kd.C_below HC5.out hb)
        clear hb
        go_wp2_with fail
        refine (turntableref37_Text.calls k A0 c0 l t2 _ HC6.out HL.out HT2.out).mono ?_
        rintro e w7 ⟨rfl, hb⟩
        have HB7 := Aside0.mk (below_step HB6.out hb)
        clear hb
        go_wp2_with fail
        refine (turntablelaw37_works.calls true _ rfl).mono ?_
        rintro e w8 ⟨rfl, hb⟩
        have HB8 := Aside0.mk (below_step HB7.out hb)
        clear hb
        go_wp2
        go_ret
        exact ⟨rfl, HB8.out⟩
end Go.Proofs.Ytkgjbdbhpohkiaa.PLi
end
-- from YtkgjbdbhpohkiaaOpen
section
namespace Go.Proofs.Ytkgjbdbhpohkiaa.Open
open Go.Proofs.YtkgjbdbhpohkiaaW.PrintWords
def Opens (P : Program) {α : Type} (d : Kd α) (t : TypeId) (good : α → Prop) : Prop :=
  ∀ {H : Type} (enc : TypeId × Value → H) (w : World) (fuel : Nat) (cs : List Value) (x : DataW H × List MemPlace),
    DataW.trod enc P w 0 (fun _ => true) true fuel t cs = some x → (∀ n ∈ x.1.weights P t, n ≤ reachBytes) → ∃ a, d.K w a cs ∧ good a
section
variable {P : Program} {α β : Type}
theorem Opens.imp {d : Kd α} {t : TypeId} {good good' : α → Prop} (h : Opens P d t good) (hg : ∀ a, good a → good' a) : Opens P d t good' :=
  fun enc w fuel cs x hx hw => let ⟨a, hk, ha⟩ := h enc w fuel cs x hx hw; ⟨a, hk, hg a ha⟩
theorem opens_int {t : TypeId} {k : IntKind} (hu : P.underlying t = some (.int k)) : Opens P (Kd.int k) t (fun n => (Lit.int k n).wf = true) := by
  intro H enc w fuel cs x hx _
  obtain ⟨n, rfl, _, hn⟩ := DataW.trod_int hu hx
  exact ⟨n, rfl, hn⟩
theorem opens_slice {t e e' : TypeId} {d : Kd α} {good : α → Prop} {B : Nat} (hu : P.underlying t = some (.slice e)) (hd : Opens P d e good) (hsz : P.cellsOf e = d.sz) (hB : P.bytesOf e = B) :
    Opens P (Kd.slice e' d) t (fun xs => xs.length * B ≤ 140737488351232 ∧ ∀ x ∈ xs, good x) := by
  intro H enc w fuel cs x hx hw
  rcases DataW.trod_slice hu hx with ⟨rfl, rfl⟩ | ⟨a, len, cap, elems, rest, n, rfl, rfl, rfl, _, hlc, hcm, hlen, hel, _, _⟩
  · exact ⟨[], ⟨none, 0, rfl, Nat.le_refl _, rfl, by simp, fun h => absurd h (by simp)⟩, by simp, by simp⟩
  · have hwe : ∀ q ∈ elems, ∀ n ∈ q.1.weights P e, n ≤ reachBytes := by
      intro q hq n hn
      refine hw n ?_
      simp only [DataW.weights, hu]
      refine List.mem_cons_of_mem _ (List.mem_append_left _ ?_)
      have key : ∀ (l : List (DataW H)) (y : DataW H), y ∈ l → ∀ n ∈ y.weights P e, n ∈ DataW.weightsAll P e l := by
        intro l
        induction l with
        | nil => intro y hy; cases hy
        | cons z zs ih =>
          intro y hy n hn
          simp only [DataW.weightsAll, List.mem_append]
          rcases List.mem_cons.1 hy with rfl | hy
          · exact .inl hn
          · exact .inr (ih y hy n hn)
      exact key _ _ (List.mem_map_of_mem hq) n hn
    have hone : ∀ i, i < len → ∃ y c, w.cells? 0 (a.add (i * P.cellsOf e)) (P.cellsOf e) = some c ∧ d.K w y c ∧ good y := by
      intro i hi
      have h1 := hel i hi
      have h2 : i < elems.length := by omega
      rw [List.getElem?_eq_getElem h2] at h1
      obtain ⟨c, hc, ht⟩ := Option.bind_eq_some_iff.1 h1
      obtain ⟨y, hy, hg⟩ := hd enc w n c _ ht (hwe _ (List.getElem_mem h2))
      exact ⟨y, c, hc, hy, hg⟩
    have hall : ∀ m, m ≤ len → ∃ ys : List α, ys.length = m ∧ (∀ y ∈ ys, good y) ∧ ∀ j p, ys[j]? = some p → ∃ c, w.cells? 0 (a.add (j * P.cellsOf e)) (P.cellsOf e) = some c ∧ d.K w p c := by
      intro m
      induction m with
      | zero => intro _; exact ⟨[], rfl, by simp, by simp⟩
      | succ m ih =>
        intro hm
        obtain ⟨ys, hl, hg, hys⟩ := ih (by omega)
        obtain ⟨y, c, hc, hk, hgy⟩ := hone m (by omega)
        refine ⟨ys ++ [y], by simp [hl], ?_, ?_⟩
        · intro z hz
          rcases List.mem_append.1 hz with hz | hz
          · exact hg z hz
          · rw [List.mem_singleton.1 hz]; exact hgy
        · intro j p hj
          rcases Nat.lt_or_ge j ys.length with hlt | hge
          · rw [List.getElem?_append_left hlt] at hj
            exact hys j p hj
          · have hlt2 := (List.getElem?_eq_some_iff.1 hj).1
            rw [List.length_append, List.length_singleton] at hlt2
            have : j = ys.length := by omega
            subst this
            rw [List.getElem?_append_right (Nat.le_refl _)] at hj
            simp at hj
            subst hj
            rw [hl]
            exact ⟨c, hc, hk⟩
    obtain ⟨ys, hl, hg, hys⟩ := hall len (Nat.le_refl _)
    subst hl
    refine ⟨ys, ⟨some a, cap, rfl, hlc, rfl, ?_, fun _ => ⟨a, rfl, fun j p hj => ?_⟩⟩, ?_, hg⟩
    · unfold maxLen at hcm; omega
    · obtain ⟨c, hc, hk⟩ := hys j p hj
      obtain ⟨_, hcl, hcell⟩ := World.cells?_some hc
      refine ⟨c, by rw [hcl, hsz], hk, fun i u hu2 => ?_⟩
      have hi : i < P.cellsOf e := by rw [← hcl]; exact (List.getElem?_eq_some_iff.1 hu2).1
      have := hcell i hi
      rw [hu2] at this
      rw [← hsz, ← this]
      congr 1
      unfold Addr.add
      by_cases h0 : j * P.cellsOf e = 0
      · simp [h0]
      · by_cases h1 : i = 0
        · simp [h1]
        · have h2 : j * P.cellsOf e + i ≠ 0 := by omega
          simp only [h0, h1, h2, if_false]
          congr 1
          omega
    · have := hw (((elems.map (·.1)).length + (rest.map (·.1)).length) * P.bytesOf e) (by simp [DataW.weights, hu])
      simp only [List.length_map] at this
      rw [hB] at this
      have h3 : ys.length * B ≤ (elems.length + rest.length) * B := Nat.mul_le_mul_right _ (by omega)
      have h4 : (elems.length + rest.length) * B ≤ 140737488351232 := by simpa [reachBytes] using this
      omega
def OpensF (P : Program) (ts : List (Nat × TypeId)) (d : Kd α) (off : Nat) (good : α → Prop) : Prop :=
  ∀ {H : Type} (enc : TypeId × Value → H) (w : World) (fuel : Nat) (cs : List Value) (xs : List (DataW H × List MemPlace)), xs.length = ts.length → off + d.sz ≤ cs.length →
    (∀ (i : Nat) (q : Nat × TypeId), ts[i]? = some q → DataW.trod enc P w 0 (fun _ => true) true fuel q.2 ((cs.drop q.1).take (P.cellsOf q.2)) = xs[i]?) →
    (∀ n ∈ DataW.weightsEach P (ts.map (·.2)) (xs.map (·.1)), n ≤ reachBytes) → ∃ a, d.K w a ((cs.drop off).take d.sz) ∧ good a
theorem opensF_one {t : TypeId} {d : Kd α} {off : Nat} {good : α → Prop} (h : Opens P d t good) (hsz : P.cellsOf t = d.sz) : OpensF P [(off, t)] d off good := by
  intro H enc w fuel cs xs hl _ hx hw
  match xs, hl with
  | [x], _ =>
    have := hx 0 (off, t) rfl
    rw [hsz] at this
    exact h enc w fuel _ x this (fun n hn => hw n (by simp [DataW.weightsEach, hn]))
theorem opensF_cons {t : TypeId} {d : Kd α} {d' : Kd β} {off off' : Nat} {ts : List (Nat × TypeId)} {good : α → Prop} {good' : β → Prop} (h : Opens P d t good) (hsz : P.cellsOf t = d.sz)
    (hoff : off' = off + d.sz) (h' : OpensF P ts d' off' good') : OpensF P ((off, t) :: ts) (Kd.pair d d') off (fun p => good p.1 ∧ good' p.2) := by
  intro H enc w fuel cs xs hl hcs hx hw
  subst hoff
  match xs, hl with
  | x :: xs, hl =>
    have hs : (Kd.pair d d').sz = d.sz + d'.sz := rfl
    rw [hs] at hcs
    have h0 := hx 0 (off, t) rfl
    rw [hsz] at h0
    obtain ⟨a, ha, hga⟩ := h enc w fuel _ x h0 (fun n hn => hw n (by simp [DataW.weightsEach, hn]))
    obtain ⟨b, hb, hgb⟩ := h' enc w fuel cs xs (by simpa using hl) (by omega) (fun i q hq => by simpa using hx (i + 1) q (by simpa using hq)) (fun n hn => hw n (by simp [DataW.weightsEach, hn]))
    refine ⟨(a, b), ⟨_, _, ?_, ha, hb⟩, hga, hgb⟩
    rw [hs, List.take_add, List.drop_drop]
theorem opens_struct {fs : Array Field} {t : TypeId} {d : Kd α} {f : β → α} {g : α → β} {good : α → Prop} (hu : P.underlying t = some (.struct fs)) (hc : P.cellsOf t = d.sz)
    (h : OpensF P (fs.toList.map fun f => (f.offset, f.type)) d 0 good) (hfg : ∀ a, f (g a) = a) : Opens P (Kd.iso d f) t (fun b => good (f b)) := by
  intro H enc w fuel cs x hx hw
  obtain ⟨xs, n, rfl, rfl, hl, hxl, hxs⟩ := DataW.trod_struct hu hx
  obtain ⟨a, ha, hg⟩ := h enc w n cs xs (by simp [hxl]) (by omega) (fun i q hq => by
    rw [List.getElem?_map] at hq
    obtain ⟨f, hf, rfl⟩ := Option.map_eq_some_iff.1 hq
    exact hxs i f (by simpa using hf)) (fun n hn => hw n (by
      simp only [DataW.weights, hu]
      simpa [List.map_map, Function.comp_def] using hn))
  refine ⟨g a, ?_, by show good (f (g a)); rw [hfg]; exact hg⟩
  show d.K w (f (g a)) cs
  rw [hfg]
  rw [List.drop_zero, ← hc, ← hl, List.take_length] at ha
  exact ha
theorem weightsEach_replicate {H : Type} (P : Program) (e : TypeId) : ∀ (l : List (DataW H)) (n : Nat), n = l.length → DataW.weightsEach P (List.replicate n e) l = DataW.weightsAll P e l
  | [], 0, _ => rfl
  | d :: l, n + 1, h => by simp only [List.replicate_succ, DataW.weightsEach, DataW.weightsAll]; rw [weightsEach_replicate P e l n (by simpa using h)]
theorem opens_array {m : Nat} {e t : TypeId} {ts : List (Nat × TypeId)} {d : Kd α} {f : β → α} {g : α → β} {good : α → Prop} (hu : P.underlying t = some (.array m e)) (hc : P.cellsOf t = d.sz)
    (hts : ts = (List.range m).map fun i => (i * P.cellsOf e, e)) (h : OpensF P ts d 0 good) (hfg : ∀ a, f (g a) = a) : Opens P (Kd.iso d f) t (fun b => good (f b)) := by
  intro H enc w fuel cs x hx hw
  subst hts
  obtain ⟨xs, n, rfl, rfl, hl, hxl, hxs⟩ := DataW.trod_array hu hx
  obtain ⟨a, ha, hg⟩ := h enc w n cs xs (by simp [hxl]) (by omega) (fun i q hq => by
    have hi := (List.getElem?_eq_some_iff.1 hq).1
    simp at hi
    rw [List.getElem?_map, List.getElem?_range hi] at hq
    simp at hq
    subst hq
    exact hxs i hi) (fun n hn => hw n (by
      simp only [DataW.weights, hu]
      rw [← weightsEach_replicate P e _ m (by simp [hxl])]
      have : (List.map (fun x => x.2) (List.map (fun i => (i * P.cellsOf e, e)) (List.range m))) = List.replicate m e := by
        rw [List.map_map]
        refine List.ext_getElem (by simp) (fun i h1 h2 => by simp)
      rwa [this] at hn))
  refine ⟨g a, ?_, by show good (f (g a)); rw [hfg]; exact hg⟩
  show d.K w (f (g a)) cs
  rw [hfg]
  rw [List.drop_zero, ← hc, ← hl, List.take_length] at ha
  exact ha
end
end Go.Proofs.Ytkgjbdbhpohkiaa.Open
end
-- from YtkgjbdbhpohkiaaSaidListingWrites
section
namespace Go.Proofs.Ytkgjbdbhpohkiaa.ListingWritesSaid
open Go.RowKit Go.Proofs.Ytkgjbdbhpohkiaa.PLi Go.Proofs.Ytkgjbdbhpohkiaa.Open Go.Proofs.YtkgjbdbhpohkiaaW.PrintWords Go.Proofs.YtkgjbdbhpohkiaaW.PrintLast
set_option linter.unusedVariables false
def good35 (x : S35) : Prop := ((Lit.int .i64 x.f0).wf = true) ∧ ((Lit.int .i64 x.f1).wf = true)
theorem open35 : Opens Try.prog k35 35 good35 := Opens.imp (opens_array (g := fun p => ⟨p.1, p.2⟩) Try.underlying35 (by kernel_rfl) (by kernel_rfl) (opensF_cons (off := 0) (off' := 1) (opens_int Try.underlying3) (by kernel_rfl) (by kernel_rfl) (opensF_one (off := 1) (opens_int Try.underlying3) (by kernel_rfl))) (fun _ => rfl)) (fun b h => h)
def good37 (x : S37) : Prop := ((Lit.int .i64 x.f0).wf = true) ∧ ((Lit.int .i64 x.f1).wf = true) ∧ ((Lit.int .i64 x.f2).wf = true) ∧ ((Lit.int .i64 x.f3).wf = true) ∧ ((Lit.int .i64 x.f4).wf = true) ∧ (x.f5.length * 8 ≤ 140737488351232 ∧ ∀ x_ ∈ x.f5, (Lit.int .i64 x_).wf = true) ∧ (good35 x.f6)
theorem open37 : Opens Try.prog k37 37 good37 := Opens.imp (opens_struct (g := fun p => ⟨p.1, p.2.1, p.2.2.1, p.2.2.2.1, p.2.2.2.2.1, p.2.2.2.2.2.1, p.2.2.2.2.2.2⟩) Try.underlying37 (by kernel_rfl) (opensF_cons (off := 0) (off' := 1) (opens_int Try.underlying3) (by kernel_rfl) (by kernel_rfl) (opensF_cons (off := 1) (off' := 2) (opens_int Try.underlying3) (by kernel_rfl) (by kernel_rfl) (opensF_cons (off := 2) (off' := 3) (opens_int Try.underlying3) (by kernel_rfl) (by kernel_rfl) (opensF_cons (off := 3) (off' := 4) (opens_int Try.underlying3) (by kernel_rfl) (by kernel_rfl) (opensF_cons (off := 4) (off' := 5) (opens_int Try.underlying2) (by kernel_rfl) (by kernel_rfl) (opensF_cons (off := 5) (off' := 6) (opens_slice (e' := 3) (B := 8) Try.underlying30 (opens_int Try.underlying3) (by kernel_rfl) (by kernel_rfl)) (by kernel_rfl) (by kernel_rfl) (opensF_one (off := 6) open35 (by kernel_rfl)))))))) (fun _ => rfl)) (fun b h => h)
def good33 (x : S33) : Prop := (x.f0.length * 8 ≤ 140737488351232 ∧ ∀ x_ ∈ x.f0, (Lit.int .i64 x_).wf = true) ∧ ((Lit.int .i64 x.f1).wf = true) ∧ (x.f2.length * 80 ≤ 140737488351232 ∧ ∀ x_ ∈ x.f2, good37 x_)
theorem open33 : Opens Try.prog k33 33 good33 := Opens.imp (opens_struct (g := fun p => ⟨p.1, p.2.1, p.2.2⟩) Try.underlying33 (by kernel_rfl) (opensF_cons (off := 0) (off' := 1) (opens_slice (e' := 3) (B := 8) Try.underlying30 (opens_int Try.underlying3) (by kernel_rfl) (by kernel_rfl)) (by kernel_rfl) (by kernel_rfl) (opensF_cons (off := 1) (off' := 2) (opens_int Try.underlying3) (by kernel_rfl) (by kernel_rfl) (opensF_one (off := 2) (opens_slice (e' := 37) (B := 80) Try.underlying31 open37 (by kernel_rfl) (by kernel_rfl)) (by kernel_rfl)))) (fun _ => rfl)) (fun b h => h)
def ListingWrites.Good : Prop := ∀ (a0 : List (S33)) (a1 : Int), (a0.length * 56 ≤ 140737488351232 ∧ ∀ x_ ∈ a0, good33 x_) → ((Lit.int .i64 a1).wf = true) → ∃ k, turntablelaw37_ListingWrites.f k a0 a1 = some true
end Go.Proofs.Ytkgjbdbhpohkiaa.ListingWritesSaid
end
-- from YtkgjbdbhpohkiaaLiDig
section
namespace Go.Proofs.Ytkgjbdbhpohkiaa.DigLaw
set_option linter.unusedSimpArgs false
open Go.RowKit Go.Proofs.YtkgjbdbhpohkiaaW.PrintWords Go.Proofs.YtkgjbdbhpohkiaaW.PrintLast Go.Proofs.YtkgjbdbhpohkiaaW.PrintMore Go.Proofs.Ytkgjbdbhpohkiaa.Str Go.Proofs.Ytkgjbdbhpohkiaa.Dig Go.Proofs.Ytkgjbdbhpohkiaa.PLi
def isD (c : UInt8) : Bool := decide (48 ≤ c.toNat) && decide (c.toNat ≤ 57)
def vn (n : Nat) (c : UInt8) : Nat := n * 10 + (c.toNat - 48)
def valD (v : Nat) (l : List UInt8) : Nat := l.foldl vn v
def fin (low : Bool) (V : Nat) : Int × Int := if 9223372036854775808 < V ∨ low = false ∧ V = 9223372036854775808 then (0, 18) else if low = true then (-(V : Int), 0) else ((V : Int), 0)
def finish (low : Bool) (rest : List UInt8) (v : Nat) : Int × Int := if rest.all isD = true then fin low (valD v rest) else (0, 3)
def badD (low : Bool) (t : List UInt8) : Bool := t.isEmpty || decide (1 < t.length) && t.head? == some 48 || low && t == [48]
def parseT (low : Bool) (t : List UInt8) : Int × Int := if badD low t = true then (0, 3) else finish low t 0
def parseL (l : List UInt8) : Int × Int := if l.head? = some 45 then parseT true l.tail else parseT false l
theorem isD_iff (c : UInt8) : isD c = true ↔ 48 ≤ c.toNat ∧ c.toNat ≤ 57 := by unfold isD; rw [Bool.and_eq_true, decide_eq_true_iff, decide_eq_true_iff]
theorem valD_cons (v : Nat) (c : UInt8) (l : List UInt8) : valD v (c :: l) = valD (vn v c) l := List.foldl_cons ..
theorem j5_ev (low : Bool) (n : Int) (v : Nat) (hv : v ≤ 9223372036854775808) (hn : n = -(v : Int)) :
    Ev (fun k => digits_Parse.j5 k low n (!low && n == -9223372036854775808)) (fin low v) := by
  refine Ev.step (f := fun _ => some (fin low v)) (fun k => ?_) (Ev.now _)
  unfold digits_Parse.j5 fin
  subst hn
  by_cases h : v = 9223372036854775808
  · subst h
    cases low <;> simp
  · have h1 : ¬ 9223372036854775808 < v := by omega
    have h2 : (-(v : Int) == -9223372036854775808) = false := by rw [beq_eq_false_iff_ne]; omega
    have h3 : wrap64 (v : Int) = (v : Int) := by unfold wrap64; omega
    cases low <;> simp [h, h1, h2, h3]
theorem parse_loop (low : Bool) : ∀ (rest pre : List UInt8) (v : Nat) (far : Bool) (n : Int), (pre ++ rest).length ≤ 4611686018427387904 → far = decide (9223372036854775808 < v) → (far = false → n = -(v : Int)) →
    Ev (fun k => digits_Parse.l0 k low (mk (pre ++ rest)) n far (pre.length : Int)) (finish low rest v) := by
  intro rest
  induction rest with
  | nil =>
    intro pre v far n hl hf hn
    have hsz : ¬ ((pre.length : Int) < ((mk (pre ++ [])).size : Int)) := by rw [mk_size]; simp
    refine Ev.step (f := fun k => if far = true then digits_Parse.j5 k low n true else if low = true then digits_Parse.j5 k low n false else digits_Parse.j5 k low n (n == -9223372036854775808)) (fun k => by simp only [digits_Parse.l0]; rw [if_neg hsz]) ?_
    have e : finish low [] v = fin low v := by simp [finish, valD]
    rw [e]
    cases far with
    | true =>
      have hv : 9223372036854775808 < v := by simpa using hf.symm
      refine ev_pos rfl (Ev.step (f := fun _ => some (0, 18)) (fun k => by simp [digits_Parse.j5]) ?_)
      have : fin low v = (0, 18) := by unfold fin; rw [if_pos (.inl hv)]
      rw [this]; exact Ev.now _
    | false =>
      have hv : v ≤ 9223372036854775808 := by have := of_decide_eq_false hf.symm; omega
      refine ev_neg (by simp) ?_
      have := j5_ev low n v hv (hn rfl)
      cases low with
      | true => exact ev_pos rfl (by simpa using this)
      | false => exact ev_neg (by simp) (by simpa using this)
  | cons c rest ih =>
    intro pre v far n hl hf hn
    have hsz : (pre.length : Int) < ((mk (pre ++ c :: rest)).size : Int) := by rw [mk_size]; simp; omega
    have hb := bt_pre pre rest c
    have hc := UInt8.toNat_lt c
    refine Ev.step (f := fun k => if (c.toNat : Int) < 48 then digits_Parse.j4 k low (mk (pre ++ c :: rest)) n far pre.length c.toNat true else digits_Parse.j4 k low (mk (pre ++ c :: rest)) n far pre.length c.toNat (decide ((c.toNat : Int) > 57))) (fun k => by simp only [digits_Parse.l0]; rw [if_pos hsz, if_pos (by omega), hb]) ?_
    by_cases hd : isD c = true
    · obtain ⟨h48, h57⟩ := (isD_iff c).1 hd
      have e57 : decide ((c.toNat : Int) > 57) = false := decide_eq_false (by omega)
      refine ev_neg (by omega) ?_
      rw [e57]
      have hw : wrap64 ((pre.length : Int) + 1) = ((pre ++ [c]).length : Int) := by
        rw [w64 (by omega) (by simp at hl; omega)]; simp
      have hm : ((c.toNat : Int) - 48) % 256 = ((c.toNat - 48 : Nat) : Int) := by omega
      have hfin : finish low (c :: rest) v = finish low rest (vn v c) := by simp [finish, hd, valD_cons]
      have hpre : pre ++ c :: rest = (pre ++ [c]) ++ rest := by simp
      rw [hfin, hpre]
      have hl' : ((pre ++ [c]) ++ rest).length ≤ 4611686018427387904 := by rw [← hpre]; exact hl
      cases far with
      | true =>
        have hv : 9223372036854775808 < v := by simpa using hf.symm
        refine Ev.step (f := fun k => digits_Parse.l0 k low (mk ((pre ++ [c]) ++ rest)) n true ((pre ++ [c]).length : Int)) (fun k => by simp only [digits_Parse.j4, Bool.false_eq_true, if_false, if_true]; rw [hw]) ?_
        exact ih (pre ++ [c]) (vn v c) true n hl' (by unfold vn; rw [decide_eq_true (by omega)]) (by simp)
      | false =>
        have hv : v ≤ 9223372036854775808 := by have := of_decide_eq_false hf.symm; omega
        obtain rfl := hn rfl
        have ht : (-9223372036854775808 + ((c.toNat - 48 : Nat) : Int)).tdiv 10 = -(((9223372036854775808 - (c.toNat - 48)) / 10 : Nat) : Int) := by
          have e1 : -9223372036854775808 + ((c.toNat - 48 : Nat) : Int) = -((9223372036854775808 - (c.toNat - 48) : Nat) : Int) := by omega
          rw [e1, Int.neg_tdiv]
          rfl
        by_cases hfar : 9223372036854775808 < vn v c
        · refine Ev.step (f := fun k => digits_Parse.l0 k low (mk ((pre ++ [c]) ++ rest)) (-(v : Int)) true ((pre ++ [c]).length : Int)) (fun k => by simp only [digits_Parse.j4, Bool.false_eq_true, if_false, if_true]; rw [hm, if_pos (by rw [ht]; unfold vn at hfar; omega), hw]) ?_
          exact ih (pre ++ [c]) (vn v c) true _ hl' (by rw [decide_eq_true hfar]) (by simp)
        · refine Ev.step (f := fun k => digits_Parse.l0 k low (mk ((pre ++ [c]) ++ rest)) (-((vn v c : Nat) : Int)) false ((pre ++ [c]).length : Int)) (fun k => ?_) (ih (pre ++ [c]) (vn v c) false _ hl' (by rw [decide_eq_false hfar]) (fun _ => rfl))
          simp only [digits_Parse.j4, Bool.false_eq_true, if_false, if_true]
          rw [hm, if_neg (by rw [ht]; unfold vn at hfar; omega), hw]
          congr 1
          unfold vn at hfar ⊢
          unfold wrap64
          omega
    · have hfin : finish low (c :: rest) v = (0, 3) := by simp [finish, hd]
      rw [hfin]
      by_cases h48 : (c.toNat : Int) < 48
      · exact ev_pos h48 (Ev.step (f := fun _ => some (0, 3)) (fun k => by simp [digits_Parse.j4]) (Ev.now _))
      · have h57 : decide ((c.toNat : Int) > 57) = true := by
          refine decide_eq_true ?_
          have : ¬ (48 ≤ c.toNat ∧ c.toNat ≤ 57) := fun h => hd ((isD_iff c).2 h)
          omega
        refine ev_neg h48 ?_
        rw [h57]
        exact Ev.step (f := fun _ => some (0, 3)) (fun k => by simp [digits_Parse.j4]) (Ev.now _)
theorem j2_ev (low : Bool) (t : List UInt8) (bad : Bool) (hl : t.length ≤ 4611686018427387904) (hb : bad = badD low t) : Ev (fun k => digits_Parse.j2 k low (mk t) bad) (parseT low t) := by
  unfold parseT
  rw [← hb]
  cases bad with
  | true => exact Ev.step (f := fun _ => some (0, 3)) (fun k => by simp [digits_Parse.j2]) (Ev.now _)
  | false => exact Ev.step (f := fun k => digits_Parse.l0 k low (mk ([] ++ t)) 0 false (([] : List UInt8).length : Int)) (fun k => by simp [digits_Parse.j2]) (parse_loop low t [] 0 false 0 hl (by simp) (by simp))
theorem j1_ev (low : Bool) (t : List UInt8) (hl : t.length ≤ 4611686018427387904) : Ev (fun k => digits_Parse.j1 k low (mk t)) (parseT low t) := by
  have key : ∀ bad, bad = badD low t → Ev (fun k => digits_Parse.j2 k low (mk t) bad) (parseT low t) := fun bad => j2_ev low t bad hl
  cases t with
  | nil => exact Ev.step (f := fun k => digits_Parse.j2 k low (mk []) true) (fun k => by simp [digits_Parse.j1, mk_size]) (key true (by simp [badD]))
  | cons c t =>
    have hb := bt_head c t
    refine Ev.step (f := fun k => if (((c :: t).length : Nat) : Int) > 1 then (if (c.toNat : Int) = 48 then digits_Parse.j2 k low (mk (c :: t)) true else if low = true then digits_Parse.j2 k low (mk (c :: t)) ((c :: t) == [48]) else digits_Parse.j2 k low (mk (c :: t)) false) else if low = true then digits_Parse.j2 k low (mk (c :: t)) ((c :: t) == [48]) else digits_Parse.j2 k low (mk (c :: t)) false) (fun k => by
      simp only [digits_Parse.j1, mk_size, mk_toList, hb]
      rw [if_neg (by simp; omega)]
      by_cases h1 : (((c :: t).length : Nat) : Int) > 1
      · rw [if_pos h1, if_pos h1, if_pos (by omega)]
      · rw [if_neg h1, if_neg h1]) ?_
    have hc48 : (c.toNat : Int) = 48 ↔ c = 48 := by
      constructor
      · intro h; apply UInt8.toNat_inj.1; simpa using (by omega : c.toNat = 48)
      · rintro rfl; rfl
    refine ev_if (fun h1 => ev_if (fun h2 => key _ ?_) fun h2 => ?_) fun h1 => ?_
    · have h3 := hc48.1 h2
      have h4 : 1 < (c :: t).length := by omega
      simp [badD, h3] at h4 ⊢
      exact .inl (by omega)
    · have h3 : ¬ c = 48 := fun h => h2 (hc48.2 h)
      cases low with
      | true => exact ev_pos rfl (key _ (by simp [badD, h3]))
      | false => exact ev_neg (by simp) (key _ (by simp [badD, h3]))
    · have h4 : t = [] := by
        cases t with
        | nil => rfl
        | cons => simp at h1; omega
      subst h4
      cases low with
      | true => exact ev_pos rfl (key _ (by simp [badD]))
      | false => exact ev_neg (by simp) (key _ (by simp [badD]))
theorem parse_ev (l : List UInt8) (hl : l.length ≤ 4611686018427387904) : Ev (fun k => digits_Parse.f k (mk l)) (parseL l) := by
  unfold digits_Parse.f
  have hj0 : ∀ low, (low = true → l.head? = some 45) → (low = false → l.head? ≠ some 45) → Ev (fun k => digits_Parse.j0 k (mk l) low) (parseL l) := by
    intro low h1 h2
    cases low with
    | true =>
      cases l with
      | nil => simp at h1
      | cons c t =>
        refine Ev.step (f := fun k => digits_Parse.j1 k true (mk t)) (fun k => ?_) ?_
        · simp only [digits_Parse.j0, mk_from, if_true]
          rw [if_pos (by rw [mk_size]; simp; omega)]
          rfl
        · have e : parseL (c :: t) = parseT true t := by unfold parseL; rw [if_pos (h1 rfl)]; rfl
          rw [e]
          exact j1_ev true t (by simp at hl; omega)
    | false =>
      refine Ev.step (f := fun k => digits_Parse.j1 k false (mk l)) (fun k => by simp [digits_Parse.j0]) ?_
      have e : parseL l = parseT false l := by unfold parseL; rw [if_neg (h2 rfl)]
      rw [e]
      exact j1_ev false l hl
  cases l with
  | nil => exact ev_neg (by rw [mk_size]; simp) (hj0 false (by simp) (by simp))
  | cons c t =>
    refine ev_pos (by rw [mk_size]; simp) (ev_pos (by rw [mk_size]; simp) ?_)
    rw [bt_head]
    have hc45 : ((c.toNat : Int) == 45) = true ↔ c = 45 := by
      rw [beq_iff_eq]
      constructor
      · intro h; apply UInt8.toNat_inj.1; simpa using (by omega : c.toNat = 45)
      · rintro rfl; rfl
    refine hj0 _ (fun h => by simp [hc45.1 h]) (fun h h' => ?_)
    have : c = 45 := by simpa using h'
    rw [hc45.2 this] at h
    cases h
theorem dig_nat (d : Nat) (h : d < 10) : (UInt8.ofNat (48 + d)).toNat = 48 + d := by
  rw [UInt8.toNat_ofNat']; omega
theorem print_some (a : Int) (h0 : -9223372036854775808 ≤ a) (h1 : a ≤ 9223372036854775807) : digits_Print.f a = some (mk (digs a)) := by
  unfold digits_Print.f; rw [if_pos h0, if_pos h1]
theorem small_some (a : Int) (h0 : -9223372036854775808 ≤ a) (h1 : a ≤ 9223372036854775807) : digits_Small.f a = some (mk (digs a)) := by
  unfold digits_Small.f; rw [print_some a h0 h1]; rfl
theorem index_ev (l : List UInt8) (hl : l.length ≤ 4611686018427387904) (most : Int) : Ev (fun k => digits_Index.f k (mk l) most) (if (parseL l).2 = 0 then (if (parseL l).1 < 0 ∨ (parseL l).1 > most then (0, 18) else ((parseL l).1, 0)) else (0, (parseL l).2)) := by
  unfold digits_Index.f
  refine Ev.bind (f := fun _ bt => if bt.2 = 0 then (if bt.1 < 0 then some (0, 18) else if bt.1 > most then some (0, 18) else some (bt.1, 0)) else some (0, bt.2)) (parse_ev l hl) ?_
  refine ev_if (fun h => ?_) (fun h => ?_)
  · rw [if_pos h]
    refine ev_if (fun h1 => ?_) (fun h1 => ev_if (fun h2 => ?_) (fun h2 => ?_))
    · rw [if_pos (.inl h1)]; exact Ev.now _
    · rw [if_pos (.inr h2)]; exact Ev.now _
    · rw [if_neg (by omega)]; exact Ev.now _
  · rw [if_neg h]; exact Ev.now _
theorem i64_bounds {a : Int} (h : (Lit.int .i64 a).wf = true) : -9223372036854775808 ≤ a ∧ a ≤ 9223372036854775807 := by
  simpa [Lit.wf, IntKind.min, IntKind.max, IntKind.signed, IntKind.bits] using h
end Go.Proofs.Ytkgjbdbhpohkiaa.DigLaw
end
-- from YtkgjbdbhpohkiaaLiRead
section
namespace Go.Proofs.Ytkgjbdbhpohkiaa.LiRead
open Go.RowKit Go.Proofs.YtkgjbdbhpohkiaaW.PrintWords Go.Proofs.YtkgjbdbhpohkiaaW.PrintLast Go.Proofs.YtkgjbdbhpohkiaaW.PrintMore Go.Proofs.Ytkgjbdbhpohkiaa.Str Go.Proofs.Ytkgjbdbhpohkiaa.Dig Go.Proofs.Ytkgjbdbhpohkiaa.DigLaw Go.Proofs.Ytkgjbdbhpohkiaa.PLi
set_option linter.unusedSimpArgs false
set_option linter.unusedVariables false
theorem ev_bind'' {α β : Type} {g : Nat → Option α} {f : Nat → α → Option β} {a : α} {r : β} (h : Ev g a) (k : Ev (fun n => f n a) r) : Ev (fun n => (g n).bind (f n)) r := Ev.bind h k
structure Toks (tl : List Tok) : Prop where
  len : tl.length ≤ 100000
  at_ : ∀ t ∈ tl, 0 ≤ t.f1
  sz : ∀ t ∈ tl, t.f0.size ≤ 100000
structure GS (tl : List Tok) (d s1 s3 s4 : Int) : Prop where
  lo : 0 ≤ s1
  hi : s1 ≤ tl.length + d
  ok : s3 = 0 → s1 ≤ tl.length
  e : 0 ≤ s4
theorem GS.up {tl : List Tok} {d d' s1 s3 s4 : Int} (h : GS tl d s1 s3 s4) (hd : d ≤ d') : GS tl d' s1 s3 s4 := ⟨h.lo, by have := h.hi; omega, h.ok, h.e⟩
theorem GS.zero {tl : List Tok} {d s1 s3 s4 : Int} (h : GS tl d s1 s3 s4) (h0 : s3 = 0) : GS tl 0 s1 s3 s4 := ⟨h.lo, by have := h.ok h0; omega, h.ok, h.e⟩
theorem tok_at (tl : List Tok) (s1 : Int) (h0 : 0 ≤ s1) (h1 : s1 < tl.length) : rd_T84 tl s1 ∈ tl := by
  obtain ⟨n, rfl⟩ := Int.eq_ofNat_of_zero_le h0
  have hn : n < tl.length := by omega
  unfold rd_T84
  rw [Int.toNat_natCast, List.getD_eq_getElem?_getD, List.getElem?_eq_getElem hn]
  exact List.getElem_mem hn
def pkB (tl : List Tok) (s1 s3 : Int) : ByteArray := if s3 = 0 ∧ s1 < (tl.length : Int) then (rd_T84 tl s1).f0 else (⟨#[]⟩ : ByteArray)
theorem peek_some (tl : List Tok) (s1 s2 s3 s4 : Int) (h0 : 0 ≤ s1) : listing_reader_peek.f tl s1 s2 s3 s4 = some (pkB tl s1 s3, s1, s2, s3, s4) := by
  unfold listing_reader_peek.f pkB
  by_cases h3 : s3 = 0
  · rw [if_pos h3]
    by_cases h1 : s1 < (tl.length : Int)
    · rw [if_neg (by omega), if_pos h0, if_pos h1, if_pos ⟨h3, h1⟩]
    · rw [if_pos (by omega), if_neg (fun h => h1 h.2)]
  · rw [if_neg h3, if_neg (fun h => h3 h.1)]
theorem pk_pos {tl : List Tok} {s1 s3 : Int} (h : pkB tl s1 s3 ≠ (⟨#[]⟩ : ByteArray)) : s3 = 0 ∧ s1 < (tl.length : Int) := by
  unfold pkB at h
  by_cases hc : s3 = 0 ∧ s1 < (tl.length : Int)
  · exact hc
  · rw [if_neg hc] at h
    exact absurd rfl h
theorem pk_sz {tl : List Tok} (hT : Toks tl) {s1 s3 : Int} (h0 : 0 ≤ s1) : (pkB tl s1 s3).size ≤ 100000 := by
  unfold pkB
  by_cases hc : s3 = 0 ∧ s1 < (tl.length : Int)
  · rw [if_pos hc]
    exact hT.sz _ (tok_at tl s1 h0 hc.2)
  · rw [if_neg hc]
    decide
def flA (tl : List Tok) (s1 s2 s3 s4 : Int) : Int := if s3 = 0 then (if s1 < (tl.length : Int) then (rd_T84 tl s1).f1 else s2) else s4
def flC (s3 c : Int) : Int := if s3 = 0 then c else s3
theorem fail_some (tl : List Tok) (s1 s2 s3 s4 c : Int) (h0 : 0 ≤ s1) : listing_reader_fail.f tl s1 s2 s3 s4 c = some (s1, s2, flC s3 c, flA tl s1 s2 s3 s4) := by
  unfold listing_reader_fail.f flA flC
  by_cases h3 : s3 = 0
  · rw [if_pos h3, if_pos h3, if_pos h3]
    by_cases h1 : s1 < (tl.length : Int)
    · rw [if_pos h1, if_pos h0, if_pos h1]
    · rw [if_neg h1, if_neg h1]
  · rw [if_neg h3, if_neg h3, if_neg h3]
theorem flA_pos {tl : List Tok} (hT : Toks tl) {s1 s2 s3 s4 : Int} (h0 : 0 ≤ s1) (h2 : 0 ≤ s2) (h4 : 0 ≤ s4) : 0 ≤ flA tl s1 s2 s3 s4 := by
  unfold flA
  by_cases h3 : s3 = 0
  · rw [if_pos h3]
    by_cases h1 : s1 < (tl.length : Int)
    · rw [if_pos h1]
      exact hT.at_ _ (tok_at tl s1 h0 h1)
    · rw [if_neg h1]
      exact h2
  · rw [if_neg h3]
    exact h4
theorem flC_ne {s3 c : Int} (hc : c ≠ 0) : flC s3 c ≠ 0 := by
  unfold flC
  by_cases h3 : s3 = 0
  · rw [if_pos h3]; exact hc
  · rw [if_neg h3]; exact h3
theorem GS.fail {tl : List Tok} (hT : Toks tl) {d s1 s2 s3 s4 c : Int} (h : GS tl d s1 s3 s4) (h2 : 0 ≤ s2) (hc : c ≠ 0) : GS tl d s1 (flC s3 c) (flA tl s1 s2 s3 s4) :=
  ⟨h.lo, h.hi, fun e => absurd e (flC_ne hc), flA_pos hT h.lo h2 h.e⟩
theorem GS.next {tl : List Tok} {d s1 s3 s4 : Int} (h : GS tl d s1 s3 s4) (hn : s3 = 0 → s1 < (tl.length : Int)) : GS tl (d + 1) (s1 + 1) s3 s4 :=
  ⟨by have := h.lo; omega, by have := h.hi; omega, fun e => by have := hn e; omega, h.e⟩
theorem GS.w {tl : List Tok} (hT : Toks tl) {d s1 s3 s4 : Int} (h : GS tl d s1 s3 s4) (hd : d ≤ 1000) : wrap64 (s1 + 1) = s1 + 1 := w64 (by have := h.lo; omega) (by have := h.hi; have := hT.len; omega)
section
variable {tl : List Tok} (hT : Toks tl) {d s1 s2 s3 s4 : Int} (g : GS tl d s1 s3 s4) (h2 : 0 ≤ s2) (hd : d ≤ 900)
include hT g h2 hd
theorem index_any (sign most c : Int) (hc : c ≠ 0) (hm : 0 ≤ most) : ∃ v r1 r3 r4, Ev (fun k => listing_reader_index.f k tl s1 s2 s3 s4 sign most c) (v, r1, s2, r3, r4) ∧ GS tl (d + 1) r1 r3 r4 ∧ s1 ≤ r1 ∧ (r3 = 0 → s3 = 0 ∧ s1 < r1 ∧ 0 ≤ v ∧ v ≤ most) := by
  have hsz := pk_sz hT (s1 := s1) (s3 := s3) g.lo
  have hpk := peek_some tl s1 s2 s3 s4 g.lo
  have hpp := pk_pos (tl := tl) (s1 := s1) (s3 := s3)
  generalize pkB tl s1 s3 = b at *
  have key : ∀ x : Bool, (x = false → 2 ≤ b.size) → ∃ v r1 r3 r4, (Ev (fun k => listing_reader_index.j0 k most c b x tl s1 s2 s3 s4) (v, r1, s2, r3, r4)) ∧ GS tl (d + 1) r1 r3 r4 ∧ s1 ≤ r1 ∧ (r3 = 0 → s3 = 0 ∧ s1 < r1 ∧ 0 ≤ v ∧ v ≤ most) := by
    intro x hx
    have hfl := fail_some tl s1 s2 s3 s4 c g.lo
    cases x with
    | true =>
      have hg := (g.fail hT h2 hc).up (show d ≤ d + 1 by omega)
      exact ⟨0, s1, flC s3 c, flA tl s1 s2 s3 s4, Ev.step (fun k => by simp only [listing_reader_index.j0]; rfl) (ev_pos (c := (true = true)) rfl (ev_some hfl (Ev.now _))), hg, Int.le_refl _, fun e => absurd e (flC_ne hc)⟩
    | false =>
      have h2b := hx rfl
      have hp := hpp (fun e => by rw [e] at h2b; exact absurd h2b (by decide))
      have hw := g.w hT (by omega)
      have eb : b.extract 1 b.size = mk (b.data.toList.drop 1) := by
        have := mk_from b.data.toList 1
        rw [← mk_data b] at this
        exact this
      have hl : (b.data.toList.drop 1).length ≤ 4611686018427387904 := by rw [List.length_drop, ← size_data]; omega
      have hi := index_ev (b.data.toList.drop 1) hl most
      rw [← eb] at hi
      generalize parseL (b.data.toList.drop 1) = q at hi
      by_cases hq : q.2 = 0 ∧ ¬ (q.1 < 0 ∨ q.1 > most)
      · rw [if_pos hq.1, if_neg hq.2] at hi
        exact ⟨q.1, s1 + 1, s3, s4, by
          refine Ev.step (fun k => by simp only [listing_reader_index.j0]; rfl) ?_
          refine ev_neg (by simp) (ev_pos (by omega) (ev_bind'' hi (ev_pos (c := ((0 : Int) = 0)) rfl ?_)))
          simp only [hw]
          exact Ev.now _, g.next (fun _ => hp.2), by omega, fun e => ⟨e, by omega, by omega, by omega⟩⟩
      · have hbad : ∃ v m, m ≠ 0 ∧ (if q.2 = 0 then (if q.1 < 0 ∨ q.1 > most then ((0 : Int), (18 : Int)) else (q.1, 0)) else (0, q.2)) = (v, m) := by
          by_cases hq2 : q.2 = 0
          · by_cases hq3 : q.1 < 0 ∨ q.1 > most
            · exact ⟨0, 18, by decide, by rw [if_pos hq2, if_pos hq3]⟩
            · exact absurd ⟨hq2, hq3⟩ hq
          · exact ⟨0, q.2, hq2, by rw [if_neg hq2]⟩
        obtain ⟨v, m, hm0, hvm⟩ := hbad
        rw [hvm] at hi
        have hg := (g.fail hT h2 hc).next (fun e => absurd e (flC_ne hc))
        exact ⟨v, s1 + 1, flC s3 c, flA tl s1 s2 s3 s4, by
          refine Ev.step (fun k => by simp only [listing_reader_index.j0]; rfl) ?_
          refine ev_neg (by simp) (ev_pos (by omega) (ev_bind'' hi (ev_neg hm0 (ev_some hfl ?_))))
          simp only [hw]
          exact Ev.now _, hg, by omega, fun e => absurd e (flC_ne hc)⟩
  by_cases h1 : (b.size : Int) < 2
  · obtain ⟨v, r1, r3, r4, k1, k2, k3, k4⟩ := key true (fun e => by cases e)
    exact ⟨v, r1, r3, r4, by unfold listing_reader_index.f; exact ev_some hpk (ev_pos h1 k1), k2, k3, k4⟩
  · have h1' : 2 ≤ b.size := by omega
    obtain ⟨v, r1, r3, r4, k1, k2, k3, k4⟩ := key (bt b 0 != sign) (fun _ => h1')
    exact ⟨v, r1, r3, r4, by unfold listing_reader_index.f; exact ev_some hpk (ev_neg h1 (ev_pos (c := 0 < (b.size : Int)) (by omega) k1)), k2, k3, k4⟩
theorem slot_any : ∃ v r1 r3 r4, Ev (fun k => listing_reader_slot.f k tl s1 s2 s3 s4) (v, r1, s2, r3, r4) ∧ GS tl (d + 1) r1 r3 r4 ∧ s1 ≤ r1 ∧ (r3 = 0 → s3 = 0 ∧ s1 < r1) := by
  have hpk := peek_some tl s1 s2 s3 s4 g.lo
  by_cases he : (pkB tl s1 s3).toList = ([95] : List UInt8)
  · have hp := pk_pos (tl := tl) (s1 := s1) (s3 := s3) (fun e => by rw [e, toList_eq] at he; exact absurd he (by decide))
    have hw := g.w hT (by omega)
    exact ⟨-1, s1 + 1, s3, s4, by unfold listing_reader_slot.f; exact ev_some hpk (ev_pos he (by simp only [hw]; exact Ev.now _)), g.next (fun _ => hp.2), by omega, fun e => ⟨e, by omega⟩⟩
  · obtain ⟨v, r1, r3, r4, k1, k2, k3, k4⟩ := index_any hT g h2 hd 115 4095 8 (by decide) (by decide)
    exact ⟨v, r1, r3, r4, by unfold listing_reader_slot.f; exact ev_some hpk (ev_neg he (ev_bind'' k1 (Ev.now _))), k2, k3, fun e => ⟨(k4 e).1, (k4 e).2.1⟩⟩
end
def wordT (n : Nat) : ByteArray := (listing_Word.f (n : Int)).getD (⟨#[]⟩ : ByteArray)
theorem word_some : ∀ n : Fin 31, listing_Word.f ((n : Nat) : Int) = some (wordT n) := by decide +kernel
section
variable {tl : List Tok} (hT : Toks tl) {d s1 s2 s3 s4 : Int} (g : GS tl d s1 s3 s4) (h2 : 0 ≤ s2) (hd : d ≤ 700) (hd0 : 0 ≤ d)
include hT g h2 hd hd0
theorem parts_fin : ∀ n : Fin 31, listing_parts.f 60 ((n : Nat) : Int) = some ((listing_parts.f 60 ((n : Nat) : Int)).getD (⟨#[]⟩ : ByteArray)) := by decide +kernel
def partsT (n : Nat) : ByteArray := (listing_parts.f 60 (n : Int)).getD (⟨#[]⟩ : ByteArray)
theorem parts_ev (n : Nat) (hn : n ≤ 30) : Ev (fun k => listing_parts.f k (n : Int)) (partsT n) := Ev.of (fun k => listing_parts.mono (n : Int) k) (k := 60) (parts_fin ⟨n, by omega⟩)
theorem parts_ok : ∀ n : Fin 31, (asciiB (partsT n) = true ∧ (partsT n).size ≤ 8) ∧ (partsT n).data.toList.all (fun c => [100, 97, 98, 102, 110, 108, 111, 116].contains c) = true := by decide +kernel
theorem all_in {l s : List UInt8} (h : l.all (fun c => s.contains c) = true) : ∀ c ∈ l, c ∈ s := fun c hc => by
  have := List.all_eq_true.mp h c hc
  simpa using this
section
variable {tl : List Tok} (hT : Toks tl) {d s1 s2 s3 s4 : Int} (g : GS tl d s1 s3 s4) (h2 : 0 ≤ s2) (hd : d ≤ 500) (hd0 : 0 ≤ d)
include hT g h2 hd hd0
end
section
variable {tl : List Tok} (hT : Toks tl) {d s1 s2 s3 s4 : Int} (g : GS tl d s1 s3 s4) (h2 : 0 ≤ s2) (hd : d ≤ 20) (hd0 : 0 ≤ d)
include hT g h2 hd hd0
end
end Go.Proofs.Ytkgjbdbhpohkiaa.LiRead
end
