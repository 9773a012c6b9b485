import Derived.Test.YtkjdblbgmomieaaMq14
import Derived.Test.YtkjdblbgmomieaaMq9
-- from YtkjdblbgmomieaaHPStands
section
namespace Go.Proofs.Ytkjdblbgmomieaa.PSh
open Go.RowKit Go.Proofs.YtkjdblbgmomieaaW.PrintWords Go.Proofs.YtkjdblbgmomieaaW.PrintLast Go.Proofs.YtkjdblbgmomieaaW.PrintMore Go.Proofs.Ytkjdblbgmomieaa.Str Go.Proofs.Ytkjdblbgmomieaa.Dig Go.Proofs.Ytkjdblbgmomieaa.DigLaw
set_option linter.unusedVariables false
set_option linter.unusedSimpArgs false
def cntF (f : SF) : Nat := (f.f3.map List.length).sum
def cntP (fs : List SF) : Nat := (fs.map cntF).sum
def standI (sz : Nat) (x : SI) : Bool := ((makesI x.f0 x.f3 != 0) == decide (0 ≤ x.f1)) && decide (x.f1 ≤ 1048576) && decide (x.f7 < (sz : Int))
def standF (sz : Nat) (f : SF) : Bool := decide (f.f1.length ≤ 8) && decide (f.f3.length ≤ 256) && nameL f.f0.data.toList && f.f3.all fun b => b.all (standI sz)
def standP (sz : Nat) (fs : List SF) : Bool := decide (fs.length ≤ 32) && decide (cntP fs ≤ 4096) && fs.all (standF sz)
theorem standF_iff {sz : Nat} {f : SF} : standF sz f = true ↔ f.f1.length ≤ 8 ∧ f.f3.length ≤ 256 ∧ nameL f.f0.data.toList = true ∧ ∀ b ∈ f.f3, ∀ x ∈ b, ((makesI x.f0 x.f3 != 0) = decide (0 ≤ x.f1)) ∧ x.f1 ≤ 1048576 ∧ x.f7 < (sz : Int) := by
  unfold standF standI
  simp only [Bool.and_eq_true, decide_eq_true_iff, List.all_eq_true, beq_iff_eq]
  constructor
  · rintro ⟨⟨⟨h1, h2⟩, h3⟩, h4⟩
    exact ⟨h1, h2, h3, fun b hb x hx => ⟨(h4 b hb x hx).1.1, (h4 b hb x hx).1.2, (h4 b hb x hx).2⟩⟩
  · rintro ⟨h1, h2, h3, h4⟩
    exact ⟨⟨⟨h1, h2⟩, h3⟩, fun b hb x hx => ⟨⟨(h4 b hb x hx).1, (h4 b hb x hx).2.1⟩, (h4 b hb x hx).2.2⟩⟩
theorem standP_iff {sz : Nat} {fs : List SF} : standP sz fs = true ↔ fs.length ≤ 32 ∧ cntP fs ≤ 4096 ∧ ∀ f ∈ fs, standF sz f = true := by
  unfold standP
  simp only [Bool.and_eq_true, decide_eq_true_iff, List.all_eq_true]
  exact ⟨fun ⟨⟨h1, h2⟩, h3⟩ => ⟨h1, h2, h3⟩, fun ⟨h1, h2, h3⟩ => ⟨⟨h1, h2⟩, h3⟩⟩
def turntablelaw06_ParseStands.f (k : Nat) (s : ByteArray) : Option Bool :=
  if 2500 < s.size then some true else (parse_Text.f s).bind fun q => if q.2.1 = 0 then (if standP s.size q.1 = true then some true else none) else (if 0 ≤ q.2.2 ∧ q.2.2 ≤ (s.size : Int) ∧ q.1.length = 0 then some true else none)
theorem rname_calls (nm : ByteArray) (hl : nm.size ≤ 4611686018427387904) (w : World) : Calls Try.prog 24 #[.string nm] w fun e w' => e = .returned (.bool (nameL nm.data.toList)) ∧ Below w.heap.size w w' := by
  have h := ref_name_ev nm.data.toList (by rw [← size_data]; exact hl)
  rw [← mk_data] at h
  obtain ⟨k, hk⟩ := h.rounds
  exact (turntableref02_Name.calls k nm _ w hk).mono fun e w' q => ⟨q.1, q.2.below⟩
set_option maxHeartbeats 8000000 in
set_option maxRecDepth 100000 in
theorem turntablelaw06_ParseStands.calls (k : Nat) (s : ByteArray) (r : Bool) (w : World) (h : turntablelaw06_ParseStands.f k s = some r) :
    Calls Try.prog 6 #[.string s] w fun e w' => e = .returned (.bool r) ∧ Below w.heap.size w w' := by
  have hu24 := Try.underlying24
  have hu28 := Try.underlying28
  have hu34 := Try.underlying34
  have hu39 := Try.underlying39
  unfold turntablelaw06_ParseStands.f at h
  by_cases hbig : 2500 < s.size
  · rw [if_pos hbig] at h
    obtain rfl := Option.some.inj h
    have d0 : decide (2500 < (s.size : Int)) = true := decide_eq_true (by omega)
    have d1 : decide (2500 < s.size) = true := decide_eq_true hbig
    clear hbig h
    go_enter Try.func6, Try.ntmps6
    have HB1 := Aside0.mk (Below.refl w.heap.size w)
    go_wp2_with fail
    refine (turntablelaw06_works.calls true _ rfl).mono ?_
    rintro e w9 ⟨rfl, hb_⟩
    have HB9 := Aside0.mk (below_step HB1.out hb_)
    clear hb_
    go_wp2
    (try simp only [Exit.inBlock, Exit.then])
    go_ret
    exact ⟨rfl, HB9.out⟩
  rw [if_neg hbig] at h
  have d0 : decide (2500 < (s.size : Int)) = false := decide_eq_false (by omega)
  have d1 : decide (2500 < s.size) = false := decide_eq_false hbig
  have HSZ := Aside0.mk (show s.size ≤ 2500 by omega)
  clear hbig
  obtain ⟨⟨fs, q1, q2⟩, hq, h⟩ := Option.bind_eq_some_iff.mp h
  simp only at h
  have HQ := Aside0.mk hq
  have HH := Aside0.mk h
  clear hq h
  go_enter Try.func6, Try.ntmps6
  go_wp2_with fail
  refine (parse_Text.calls s fs q1 q2 _ HQ.out).mono ?_
  rintro e v1_ ⟨v_, rfl, hr_, hb_⟩
  obtain ⟨A1, c1, e_, hl1, hC1⟩ := Kd.R_reads hr_
  subst e_
  have hq_ := below_alloc (below_alloc (Below.refl v1_.heap.size v1_) (.cells #[.slice A1 fs.length c1] 24)) (.cells #[.int .i64 q1, .int .i64 q2] 28)
  have HB1 := Aside0.mk (below_step hb_ hq_)
  have k1_ := blk_alloc (blk_new v1_ (.cells #[.slice A1 fs.length c1] 24)) (.cells #[.int .i64 q1, .int .i64 q2] 28)
  have k2_ := blk_new (v1_.alloc (.cells #[.slice A1 fs.length c1] 24)) (.cells #[.int .i64 q1, .int .i64 q2] 28)
  rw [show (v1_.alloc (.cells #[.slice A1 fs.length c1] 24)).heap.size = v1_.heap.size + 1 by simp] at k2_
  have HC := Aside0.mk (Kd.C_below hC1 hq_)
  have HL := Aside0.mk hl1
  clear hr_ hb_ hC1 hl1 d0 d1
  go_upto_region 4 with (fail)
  generalize ((v1_.alloc (.cells #[.slice A1 fs.length c1] 24)).alloc (.cells #[.int .i64 q1, .int .i64 q2] 28)) = W1 at k1_ k2_ HB1 HC ⊢
  clear hq_
  generalize v1_.heap.size + 1 = be at k2_ ⊢
  generalize v1_.heap.size = bp at k1_ ⊢
  have HP := Aside0.mk k1_
  have HE := Aside0.mk k2_
  have z0 := blk_cell k2_ 0
  have z1 := blk_cell k2_ 1
  have z2 := blk_cell k1_ 0
  have h := HH.out
  clear k1_ k2_ HH
  by_cases cq : q1 = 0
  rotate_left
  · rw [if_neg cq] at h
    by_cases c : 0 ≤ q2 ∧ q2 ≤ (s.size : Int) ∧ fs.length = 0
    rotate_left
    · rw [if_neg c] at h
      cases h
    rw [if_pos c] at h
    obtain rfl := Option.some.inj h
    have g1 : (q1 != 0) = true := bne_iff_ne.mpr cq
    have g2 : decide (0 ≤ q2) = true := decide_eq_true c.1
    have g3 : decide (q2 ≤ (s.size : Int)) = true := decide_eq_true c.2.1
    have g4 : ((fs.length : Int) == 0) = true := beq_iff_eq.mpr (by omega)
    have g5 : (fs.length == 0) = true := beq_iff_eq.mpr c.2.2
    clear cq c h
    go_wp2_with fail
    refine (turntablelaw06_works.calls true _ rfl).mono ?_
    rintro e w9 ⟨rfl, hb_⟩
    have HB9 := Aside0.mk (below_step HB1.out hb_)
    clear hb_
    go_wp2
    (try simp only [Exit.inBlock, Exit.then])
    go_ret
    exact ⟨rfl, HB9.out⟩
  rw [if_pos cq] at h
  by_cases ct : standP s.size fs = true
  rotate_left
  · rw [if_neg ct] at h
    cases h
  rw [if_pos ct] at h
  obtain rfl := Option.some.inj h
  obtain ⟨c1_, c2_, c3_⟩ := standP_iff.mp ct
  have g1 : (q1 != 0) = false := bne_eq_false_iff_eq.mpr cq
  have HT := Aside0.mk c3_
  have H32 := Aside0.mk c1_
  have HCN := Aside0.mk c2_
  clear cq ct h c1_ c2_ c3_
  go_upto_region 7 with (fail)
  clear g1 z0 z1 z2
  go_wp2
  (try simp only [Act.put, List.setIfInBounds_toArray, List.set_cons_zero, List.set_cons_succ])
  go_loopg [5, 6] fs.length (fun kq v5 v6 w' => ∃ (n i : Int), v5 = .int .i64 n ∧ v6 = .int .i64 i ∧ Aside0 (0 ≤ i ∧ i ≤ (fs.length : Int)) ∧ Aside0 (0 ≤ n ∧ n + (cntP (fs.drop i.toNat) : Int) = (cntP fs : Int)) ∧ Aside0 (Below W1.heap.size W1 w') ∧ Aside0 (kq = fs.length - i.toNat))
  case atStart => exact ⟨0, 0, rfl, rfl, ⟨by omega⟩, ⟨by simp⟩, ⟨Below.refl _ _⟩, ⟨rfl⟩⟩
  case round =>
    obtain ⟨n, i, rfl, rfl, HI, HN, HB, HK⟩ := hrel
    have y0 := blk_cell (blk_below HP.out HB.out) 0
    by_cases hp : i < (fs.length : Int)
    · have dd1 : decide (i < (fs.length : Int)) = true := decide_eq_true hp
      obtain ⟨ad, B1, d1, B3, d3, e_, z0, z1, z2, z3, z4, l1, g1, l3, g3⟩ := at_T34 (Kd.C_below HC.out HB.out) i HI.out.1 hp
      have hmem := HT.out _ (mem_rd_ fs z34 i HI.out.1 hp)
      have hdr := HN.out
      rw [drop_cons_ fs i z34 HI.out.1 hp] at hdr
      have hx : fs.getD i.toNat z34 = rd_T34 fs i := rfl
      rw [hx] at hmem hdr
      clear hx
      rw [e_] at y0
      clear e_
      generalize rd_T34 fs i = f at z0 z1 z2 z3 z4 l1 g1 l3 g3 hmem hdr
      have HDR := Aside0.mk (show 0 ≤ n ∧ n + ((f.f3.map List.length).sum : Int) + (cntP (fs.drop (i + 1).toNat) : Int) = (cntP fs : Int) from ⟨hdr.1, by
        have h2 := hdr.2
        rw [show cntP (f :: fs.drop (i + 1).toNat) = cntF f + cntP (fs.drop (i + 1).toNat) from by simp [cntP]] at h2
        unfold cntF at h2
        push_cast at h2
        omega⟩)
      obtain ⟨m1, m2, m3, m4⟩ := standF_iff.mp hmem
      have HMEM := Aside0.mk m4
      have HNM := Aside0.mk m3
      have HP2 := Aside0.mk hp
      have HL1 := Aside0.mk l1
      have HL3 := Aside0.mk l3
      have HG1 := Aside0.mk g1
      have HG3 := Aside0.mk g3
      have p1 := eq_true HI.out.1
      have q1 := eq_true hp
      have HM12 := Aside0.mk (And.intro m1 m2)
      clear hp l1 g1 l3 g3 hmem hdr m3 m4 m1 m2
      have hbf := blk_new wr (.cells #[.string f.f0, .slice B1 f.f1.length d1, .int .i64 f.f2, .slice B3 f.f3.length d3, .int .i64 f.f4] 34)
      have hbb : Below wr.heap.size wr (wr.alloc (.cells #[.string f.f0, .slice B1 f.f1.length d1, .int .i64 f.f2, .slice B3 f.f3.length d3, .int .i64 f.f4] 34)) := below_alloc (Below.refl _ _) _
      go_upto_region 11 with (fail)
      have HB3 := Aside0.mk (below_step HB.out hbb)
      have HC3 := Aside0.mk (Kd.C_below HG3.out hbb)
      have HBF := Aside0.mk hbf
      clear hbf hbb z0 z1 z2 z3 z4 p1 q1 dd1 y0 HG1 HG3
      generalize (wr.alloc (.cells #[.string f.f0, .slice B1 f.f1.length d1, .int .i64 f.f2, .slice B3 f.f3.length d3, .int .i64 f.f4] 34)) = W2 at HB3 HC3 HBF ⊢
      generalize wr.heap.size = bf at HBF ⊢
      have y1 := blk_cell HBF.out 1
      have y3 := blk_cell HBF.out 3
      have y0 := blk_cell HBF.out 0
      have g1 : decide (8 < (f.f1.length : Int)) = false := decide_eq_false (by have := HM12.out; omega)
      have g2 : decide (256 < (f.f3.length : Int)) = false := decide_eq_false (by have := HM12.out; omega)
      have g3 : decide (8 < f.f1.length) = false := decide_eq_false (by have := HM12.out; omega)
      have g4 : decide (256 < f.f3.length) = false := decide_eq_false (by have := HM12.out; omega)
      go_wp2_with fail
      refine (rname_calls f.f0 (by have := HNM.out; exact nameL_size this) _).mono ?_
      rintro e w5 ⟨rfl, hb_⟩
      rw [HNM.out]
      have HB4 := Aside0.mk (below_step HB3.out hb_)
      have HBF2 := Aside0.mk (blk_below HBF.out hb_)
      have HD3 := Aside0.mk (Kd.C_below HC3.out hb_)
      clear hb_ HB3 HC3 HBF
      go_upto_region 13 with (fail)
      clear y0 y1 y3 g1 g2 g3 g4
      go_wp2
      (try simp only [Act.put, List.setIfInBounds_toArray, List.set_cons_zero, List.set_cons_succ])
      generalize hR1 : (cntP (fs.drop (i + 1).toNat) : Int) = R1 at HDR
      go_loopg [5, 8] f.f3.length (fun kq v5 v8 w' => ∃ (n j : Int), v5 = .int .i64 n ∧ v8 = .int .i64 j ∧ Aside0 (0 ≤ j ∧ j ≤ (f.f3.length : Int)) ∧ Aside0 (0 ≤ n ∧ n + (((f.f3.drop j.toNat).map List.length).sum : Int) + R1 = (cntP fs : Int)) ∧ Aside0 (Below w5.heap.size w5 w') ∧ Aside0 (kq = f.f3.length - j.toNat))
      case atStart => exact ⟨n, 0, rfl, rfl, ⟨by omega⟩, ⟨by have := HDR.out; simpa using this⟩, ⟨Below.refl _ _⟩, ⟨rfl⟩⟩
      case round =>
        clear HDR
        obtain ⟨n, j, rfl, rfl, HJ, HN2, HBJ, HKJ⟩ := hrel
        have y3 := blk_cell (blk_below HBF2.out HBJ.out) 3
        by_cases hj : j < (f.f3.length : Int)
        · have dj : decide (j < (f.f3.length : Int)) = true := decide_eq_true hj
          obtain ⟨ad2, cs, e2, -, hK, hc0⟩ := Kd.C_get HD3.out ([] : List SI) j HJ.out.1 hj
          obtain ⟨A5, c5, rfl, l5, g5⟩ := hK
          have hx2 := hc0 0 _ rfl
          rw [show j.toNat * (Kd.slice 39 k39).sz + 0 = j.toNat from by show j.toNat * 1 + 0 = _; omega] at hx2
          clear hc0
          have hmb := HMEM.out _ (mem_rd_ f.f3 [] j HJ.out.1 hj)
          have hdr := HN2.out
          rw [drop_cons_ f.f3 j [] HJ.out.1 hj] at hdr
          generalize f.f3.getD j.toNat [] = bl at hx2 l5 g5 hmb hdr
          have HDR := Aside0.mk (show 0 ≤ n ∧ n + (bl.length : Int) + (((f.f3.drop (j + 1).toNat).map List.length).sum : Int) + R1 = (cntP fs : Int) from ⟨hdr.1, by
            have h2 := hdr.2
            simp only [List.map_cons, List.sum_cons] at h2
            push_cast at h2
            omega⟩)
          have HMB := Aside0.mk hmb
          have HX2 := Aside0.mk hx2
          have HL5 := Aside0.mk l5
          have HG5 := Aside0.mk g5
          have HM5 := Aside0.mk (Kd.C_max g5)
          have HE2 := Aside0.mk e2
          have HJ2 := Aside0.mk hj
          clear hj l5 g5 hmb hx2 e2 hdr
          go_upto_region 16 with (fail)
          clear y3 dj
          go_wp2
          (try simp only [Act.put, List.setIfInBounds_toArray, List.set_cons_zero, List.set_cons_succ])
          generalize hR2 : (((f.f3.drop (j + 1).toNat).map List.length).sum : Int) = R2 at HDR
          go_loopg [5, 9] bl.length (fun kq v5 v9 w' => ∃ (n m : Int), v5 = .int .i64 n ∧ v9 = .int .i64 m ∧ Aside0 (0 ≤ m ∧ m ≤ (bl.length : Int)) ∧ Aside0 (0 ≤ n ∧ n + ((bl.length : Int) - m) + R2 + R1 = (cntP fs : Int)) ∧ Aside0 (Below w5.heap.size w5 w') ∧ Aside0 (kq = bl.length - m.toNat))
          case atStart => exact ⟨n, 0, rfl, rfl, ⟨by omega⟩, ⟨by have := HDR.out; omega⟩, ⟨HBJ.out⟩, ⟨rfl⟩⟩
          case round =>
            clear HBJ HDR
            obtain ⟨n, m, rfl, rfl, HM, HN3, HBM, HKM⟩ := hrel
            have pj := eq_true HJ.out.1
            have qj := eq_true HJ2.out
            have y3 := blk_cell (blk_below HBF2.out HBM.out) 3
            rw [HE2.out] at y3
            have hx2 := pw_cell_below HBM.out HX2.out
            by_cases hm : m < (bl.length : Int)
            · have dm : decide (m < (bl.length : Int)) = true := decide_eq_true hm
              obtain ⟨ad3, E4, e4, E5, e5, e3, x0, x1, x2, x3, x4, x5, x6, x7, m4, h4, m5, h5⟩ := at_T39 (Kd.C_below HG5.out HBM.out) m HM.out.1 hm
              have hmi := HMB.out _ (mem_rd_ bl z39 m HM.out.1 hm)
              have hx : bl.getD m.toNat z39 = rd_T39 bl m := rfl
              rw [hx] at hmi
              clear hx
              rw [e3] at hx2
              generalize rd_T39 bl m = x at hmi x0 x1 x2 x3 x4 x5 x6 x7 m4 h4 m5 h5
              have HMI := Aside0.mk hmi
              have HM4 := Aside0.mk m4
              have HM5' := Aside0.mk m5
              have HH4 := Aside0.mk h4
              have HH5 := Aside0.mk h5
              have HM2 := Aside0.mk hm
              have pm := eq_true HM.out.1
              have qm := eq_true hm
              clear hm hmi m4 h4 m5 h5
              have hbx := blk_new wr (.cells #[.int .i64 x.f0, .int .i64 x.f1, .int .i64 x.f2, .int .i64 x.f3, .slice E4 x.f4.length e4, .slice E5 x.f5.length e5, .string x.f6, .int .i64 x.f7] 39)
              have hbb : Below wr.heap.size wr (wr.alloc (.cells #[.int .i64 x.f0, .int .i64 x.f1, .int .i64 x.f2, .int .i64 x.f3, .slice E4 x.f4.length e4, .slice E5 x.f5.length e5, .string x.f6, .int .i64 x.f7] 39)) := below_alloc (Below.refl _ _) _
              go_upto_region 21 with (fail)
              have HBM3 := Aside0.mk (below_step HBM.out hbb)
              have HBX := Aside0.mk hbx
              have HC4 := Aside0.mk (Kd.C_below HH4.out hbb)
              have HC5 := Aside0.mk (Kd.C_below HH5.out hbb)
              clear hbx hbb x0 x1 x2 x3 x4 x5 x6 x7 pm qm pj qj y3 hx2 dm HH4 HH5
              generalize (wr.alloc (.cells #[.int .i64 x.f0, .int .i64 x.f1, .int .i64 x.f2, .int .i64 x.f3, .slice E4 x.f4.length e4, .slice E5 x.f5.length e5, .string x.f6, .int .i64 x.f7] 39)) = W4 at HBM3 HBX HC4 HC5 ⊢
              generalize wr.heap.size = bx at HBX ⊢
              have HY0 := Aside0.mk (below_drew1 (Below.refl W4.heap.size W4))
              have t1 : decide (1048576 < x.f1) = false := decide_eq_false (by have := HMI.out; omega)
              have t2 : decide ((s.size : Int) ≤ x.f7) = false := decide_eq_false (by have := HMI.out; omega)
              have t0 : ((makesI x.f0 x.f3 != 0) != decide (0 ≤ x.f1)) = false := bne_eq_false_iff_eq.mpr HMI.out.1
              have t0' : (!((makesI x.f0 x.f3 != 0) == decide (0 ≤ x.f1))) = false := t0
              refine start_ (n := 19) (S := fun w' => w'.cell? ⟨bx, 0, none⟩ = some (.int .i64 x.f0) ∧ w'.cell? ⟨bx, 1, none⟩ = some (.int .i64 x.f1) ∧ w'.cell? ⟨bx, 2, none⟩ = some (.int .i64 x.f2) ∧ w'.cell? ⟨bx, 3, none⟩ = some (.int .i64 x.f3) ∧ w'.cell? ⟨bx, 4, none⟩ = some (.slice E4 x.f4.length e4) ∧ w'.cell? ⟨bx, 5, none⟩ = some (.slice E5 x.f5.length e5) ∧ w'.cell? ⟨bx, 6, none⟩ = some (.string x.f6) ∧ w'.cell? ⟨bx, 7, none⟩ = some (.int .i64 x.f7)) (ds := []) #[false, false, false, false, false, false, false, false, false, false, false, false, false, false, false, false, false, false, false] (by kernel_rfl) rfl rfl ⟨(blk_cell (blk_below HBX.out HY0.out) 0), (blk_cell (blk_below HBX.out HY0.out) 1), (blk_cell (blk_below HBX.out HY0.out) 2), (blk_cell (blk_below HBX.out HY0.out) 3), (blk_cell (blk_below HBX.out HY0.out) 4), (blk_cell (blk_below HBX.out HY0.out) 5), (blk_cell (blk_below HBX.out HY0.out) 6), (blk_cell (blk_below HBX.out HY0.out) 7)⟩ (fun hHeld => ?_)
              refine pure_ (i := 3) (N := some 100) (v := ?_) (a' := ?_) #[false, false, false, true, false, false, false, false, false, false, false, false, false, false, false, false, false, false, false] rfl rfl (by kernel_rfl) (fun _ _ _ h => h) (Or.inl ⟨by rfl, ?_⟩) ?_ ?_
              rotate_left
              · intro w'
                go_simp
                with_reducible rfl
              rotate_left
              · simp only [Act.put, List.setIfInBounds_toArray, List.set_cons_zero, List.set_cons_succ, i64_w, i32_w]
                rfl
              refine take_ (i := 0) (N := some 97) (v := ?_) (a' := ?_) #[true, false, false, true, false, false, false, false, false, false, false, false, false, false, false, false, false, false, false] rfl rfl (by kernel_rfl) (fun _ _ _ h => h) (Or.inl ⟨by rfl, ?_⟩) hHeld ?_ ?_
              rotate_left
              · rintro w' ⟨s0, s1, s2, s3, s4, s5, s6, s7⟩
                go_simp
                with_reducible rfl
              rotate_left
              · simp only [Act.put, List.setIfInBounds_toArray, List.set_cons_zero, List.set_cons_succ, i64_w, i32_w]
                rfl
              refine take_ (i := 4) (N := some 101) (v := ?_) (a' := ?_) #[true, false, false, true, true, false, false, false, false, false, false, false, false, false, false, false, false, false, false] rfl rfl (by kernel_rfl) (fun _ _ _ h => h) (Or.inl ⟨by rfl, ?_⟩) hHeld ?_ ?_
              rotate_left
              · rintro w' ⟨s0, s1, s2, s3, s4, s5, s6, s7⟩
                go_simp
                with_reducible rfl
              rotate_left
              · simp only [Act.put, List.setIfInBounds_toArray, List.set_cons_zero, List.set_cons_succ, i64_w, i32_w]
                rfl
              refine pure_ (i := 5) (N := some 102) (v := ?_) (a' := ?_) #[true, false, false, true, true, true, false, false, false, false, false, false, false, false, false, false, false, false, false] rfl rfl (by kernel_rfl) (fun _ _ _ h => h) (Or.inl ⟨by rfl, ?_⟩) ?_ ?_
              rotate_left
              · intro w'
                go_simp
                with_reducible rfl
              rotate_left
              · simp only [Act.put, List.setIfInBounds_toArray, List.set_cons_zero, List.set_cons_succ, i64_w, i32_w]
                rfl
              refine one_ (i := 1) (N := some 98) #[true, true, false, true, true, true, false, false, false, false, false, false, false, false, false, false, false, false, false] rfl rfl (by kernel_rfl) (by decide) (fun K hK => ?_)
              refine goes_ Try.func25 (by kernel_rfl) rfl #[.agg #[.int .i64 x.f0, .int .i64 x.f1, .int .i64 x.f2, .int .i64 x.f3, .slice E4 x.f4.length e4, .slice E5 x.f5.length e5, .string x.f6, .int .i64 x.f7]] (by rfl) rfl rfl (by simp only [List.map_toArray, List.map_cons, List.map_nil]; rfl) ?_
              with_reducible refine (turntableref05_Makes.calls 41 x.f0 x.f1 x.f2 x.f3 E4 e4 x.f4 E5 e5 x.f5 x.f6 x.f7 (makesI x.f0 x.f3) _ (Kd.C_below HC4.out HY0.out) HM4.out (Kd.C_below HC5.out HY0.out) HM5'.out (makes_c _ _ _ _ _ _ _ _).2).mono ?_
              rintro e wq1 ⟨rfl, hb_⟩
              refine ⟨_, rfl, ?_⟩
              have HY1 := Aside0.mk (below_step HY0.out hb_)
              clear hb_
              refine hK.out _ _ ⟨(blk_cell (blk_below HBX.out HY1.out) 0), (blk_cell (blk_below HBX.out HY1.out) 1), (blk_cell (blk_below HBX.out HY1.out) 2), (blk_cell (blk_below HBX.out HY1.out) 3), (blk_cell (blk_below HBX.out HY1.out) 4), (blk_cell (blk_below HBX.out HY1.out) 5), (blk_cell (blk_below HBX.out HY1.out) 6), (blk_cell (blk_below HBX.out HY1.out) 7)⟩ (fun hHeld => ?_)
              clear hK K
              refine norm_ (a' := ?_) ?_ ?_
              rotate_left
              · show Act.put _ (some 98) _ = _
                simp only [Act.put, List.setIfInBounds_toArray, List.set_cons_zero, List.set_cons_succ, i64_w, i32_w]
                rfl
              refine pure_ (i := 2) (N := some 99) (v := ?_) (a' := ?_) #[true, true, true, true, true, true, false, false, false, false, false, false, false, false, false, false, false, false, false] rfl rfl (by kernel_rfl) (fun _ _ _ h => h) (Or.inl ⟨by rfl, ?_⟩) ?_ ?_
              rotate_left
              · intro w'
                go_simp
                with_reducible rfl
              rotate_left
              · simp only [Act.put, List.setIfInBounds_toArray, List.set_cons_zero, List.set_cons_succ, i64_w, i32_w]
                rfl
              refine pure_ (i := 6) (N := some 103) (v := ?_) (a' := ?_) #[true, true, true, true, true, true, true, false, false, false, false, false, false, false, false, false, false, false, false] rfl rfl (by kernel_rfl) (fun _ _ _ h => h) (Or.inl ⟨by rfl, ?_⟩) ?_ ?_
              rotate_left
              · intro w'
                go_simp
                with_reducible rfl
              rotate_left
              · simp only [Act.put, List.setIfInBounds_toArray, List.set_cons_zero, List.set_cons_succ, i64_w, i32_w]
                rfl
              refine pure_ (i := 7) (N := some 104) (v := ?_) (a' := ?_) #[true, true, true, true, true, true, true, true, false, false, false, false, false, false, false, false, false, false, false] rfl rfl (by kernel_rfl) (fun _ _ _ h => h) (Or.inl ⟨by rfl, ?_⟩) ?_ ?_
              rotate_left
              · intro w'
                go_simp
                with_reducible rfl
              rotate_left
              · simp only [Act.put, List.setIfInBounds_toArray, List.set_cons_zero, List.set_cons_succ, i64_w, i32_w]
                rfl
              refine pure_ (i := 8) (N := some 105) (v := ?_) (a' := ?_) #[true, true, true, true, true, true, true, true, true, false, false, false, false, false, false, false, false, false, false] rfl rfl (by kernel_rfl) (fun _ _ _ h => h) (Or.inl ⟨by rfl, ?_⟩) ?_ ?_
              rotate_left
              · intro w'
                go_simp
                with_reducible rfl
              rotate_left
              · simp only [Act.put, List.setIfInBounds_toArray, List.set_cons_zero, List.set_cons_succ, i64_w, i32_w]
                rfl
              refine take_ (i := 9) (N := some 106) (v := ?_) (a' := ?_) #[true, true, true, true, true, true, true, true, true, true, false, false, false, false, false, false, false, false, false] rfl rfl (by kernel_rfl) (fun _ _ _ h => h) (Or.inl ⟨by rfl, ?_⟩) hHeld ?_ ?_
              rotate_left
              · rintro w' ⟨s0, s1, s2, s3, s4, s5, s6, s7⟩
                go_simp
                with_reducible rfl
              rotate_left
              · simp only [Act.put, List.setIfInBounds_toArray, List.set_cons_zero, List.set_cons_succ, i64_w, i32_w]
                rfl
              refine pure_ (i := 10) (N := some 107) (v := ?_) (a' := ?_) #[true, true, true, true, true, true, true, true, true, true, true, false, false, false, false, false, false, false, false] rfl rfl (by kernel_rfl) (fun _ _ _ h => h) (Or.inl ⟨by rfl, ?_⟩) ?_ ?_
              rotate_left
              · intro w'
                go_simp
                with_reducible rfl
              rotate_left
              · simp only [Act.put, List.setIfInBounds_toArray, List.set_cons_zero, List.set_cons_succ, i64_w, i32_w]
                rfl
              refine pure_ (i := 11) (N := some 108) (v := ?_) (a' := ?_) #[true, true, true, true, true, true, true, true, true, true, true, true, false, false, false, false, false, false, false] rfl rfl (by kernel_rfl) (fun _ _ _ h => h) (Or.inl ⟨by rfl, ?_⟩) ?_ ?_
              rotate_left
              · intro w'
                go_simp
                with_reducible rfl
              rotate_left
              · simp only [Act.put, List.setIfInBounds_toArray, List.set_cons_zero, List.set_cons_succ, i64_w, i32_w]
                rfl
              refine pure_ (i := 12) (N := some 109) (v := ?_) (a' := ?_) #[true, true, true, true, true, true, true, true, true, true, true, true, true, false, false, false, false, false, false] rfl rfl (by kernel_rfl) (fun _ _ _ h => h) (Or.inl ⟨by rfl, ?_⟩) ?_ ?_
              rotate_left
              · intro w'
                go_simp
                with_reducible rfl
              rotate_left
              · simp only [Act.put, List.setIfInBounds_toArray, List.set_cons_zero, List.set_cons_succ, i64_w, i32_w]
                rfl
              refine pure_ (i := 13) (N := some 110) (v := ?_) (a' := ?_) #[true, true, true, true, true, true, true, true, true, true, true, true, true, true, false, false, false, false, false] rfl rfl (by kernel_rfl) (fun _ _ _ h => h) (Or.inl ⟨by rfl, ?_⟩) ?_ ?_
              rotate_left
              · intro w'
                go_simp
                with_reducible rfl
              rotate_left
              · simp only [Act.put, List.setIfInBounds_toArray, List.set_cons_zero, List.set_cons_succ, i64_w, i32_w]
                rfl
              refine pure_ (i := 15) (N := some 112) (v := ?_) (a' := ?_) #[true, true, true, true, true, true, true, true, true, true, true, true, true, true, false, true, false, false, false] rfl rfl (by kernel_rfl) (fun _ _ _ h => h) (Or.inl ⟨by rfl, ?_⟩) ?_ ?_
              rotate_left
              · intro w'
                go_simp
                with_reducible rfl
              rotate_left
              · simp only [Act.put, List.setIfInBounds_toArray, List.set_cons_zero, List.set_cons_succ, i64_w, i32_w]
                rfl
              refine pure_ (i := 16) (N := some 113) (v := ?_) (a' := ?_) #[true, true, true, true, true, true, true, true, true, true, true, true, true, true, false, true, true, false, false] rfl rfl (by kernel_rfl) (fun _ _ _ h => h) (Or.inl ⟨by rfl, ?_⟩) ?_ ?_
              rotate_left
              · intro w'
                go_simp
                with_reducible rfl
              rotate_left
              · simp only [Act.put, List.setIfInBounds_toArray, List.set_cons_zero, List.set_cons_succ, i64_w, i32_w]
                rfl
              refine take_ (i := 14) (N := some 111) (v := ?_) (a' := ?_) #[true, true, true, true, true, true, true, true, true, true, true, true, true, true, true, true, true, false, false] rfl rfl (by kernel_rfl) (fun _ _ _ h => h) (Or.inl ⟨by rfl, ?_⟩) hHeld ?_ ?_
              rotate_left
              · rintro w' ⟨s0, s1, s2, s3, s4, s5, s6, s7⟩
                go_simp
                with_reducible rfl
              rotate_left
              · simp only [Act.put, List.setIfInBounds_toArray, List.set_cons_zero, List.set_cons_succ, i64_w, i32_w]
                rfl
              refine pure_ (i := 17) (N := some 114) (v := ?_) (a' := ?_) #[true, true, true, true, true, true, true, true, true, true, true, true, true, true, true, true, true, true, false] rfl rfl (by kernel_rfl) (fun _ _ _ h => h) (Or.inl ⟨by rfl, ?_⟩) ?_ ?_
              rotate_left
              · intro w'
                go_simp
                with_reducible rfl
              rotate_left
              · simp only [Act.put, List.setIfInBounds_toArray, List.set_cons_zero, List.set_cons_succ, i64_w, i32_w]
                rfl
              refine pure_ (i := 18) (N := some 115) (v := ?_) (a' := ?_) #[true, true, true, true, true, true, true, true, true, true, true, true, true, true, true, true, true, true, true] rfl rfl (by kernel_rfl) (fun _ _ _ h => h) (Or.inl ⟨by rfl, ?_⟩) ?_ ?_
              rotate_left
              · intro w'
                go_simp
                with_reducible rfl
              rotate_left
              · simp only [Act.put, List.setIfInBounds_toArray, List.set_cons_zero, List.set_cons_succ, i64_w, i32_w]
                rfl
              refine done_ (by kernel_rfl) ?_
              clear hHeld
              have h02 : 0 ≤ R2 := by rw [← hR2]; exact Int.natCast_nonneg _
              have h01 : 0 ≤ R1 := by rw [← hR1]; exact Int.natCast_nonneg _
              have hw1 : wrap64 (n + 1) = n + 1 := w64 (by have := HN3.out; omega) (by have := HN3.out; have := HM2.out; have := HCN.out; omega)
              have HW1 := Aside0.mk hw1
              clear h02 h01 hw1
              go_wp2_with fail
              go_roundg (bl.length - (m + 1).toNat)
              case measure => have := HKM.out; have := HM2.out; have := HM.out; omega
              case rel => exact ⟨n + 1, m + 1, by rw [HW1.out], by rw [show wrap64 (m + 1) = m + 1 from w64 (by have := HM.out; omega) (by have := HM2.out; have := HL5.out; have := HM5.out; omega)], ⟨by have := HM.out; have := HM2.out; omega⟩, ⟨by have := HN3.out; omega⟩, ⟨below_step HBM3.out HY1.out⟩, ⟨rfl⟩⟩
            · have dm : decide (m < (bl.length : Int)) = false := decide_eq_false hm
              have HME := Aside0.mk (show m = (bl.length : Int) by have := HM.out; omega)
              clear hm
              go_wp2_with fail
              go_roundg (f.f3.length - (j + 1).toNat)
              case measure => have := HKJ.out; have := HJ2.out; have := HJ.out; omega
              case rel => exact ⟨n, j + 1, rfl, by rw [show wrap64 (j + 1) = j + 1 from w64 (by have := HJ.out; omega) (by have := HJ2.out; have := HL3.out; have := Kd.C_max HD3.out; omega)], ⟨by have := HJ.out; have := HJ2.out; omega⟩, ⟨by have := HN3.out; have := HME.out; rw [hR2]; omega⟩, ⟨HBM.out⟩, ⟨rfl⟩⟩
        · have dj : decide (j < (f.f3.length : Int)) = false := decide_eq_false hj
          have hdr := HN2.out
          rw [drop_none_ f.f3 j hj] at hdr
          simp only [List.map_nil, List.sum_nil] at hdr
          have HDR := Aside0.mk hdr
          clear hj hdr
          go_wp2_with fail
          go_roundg (fs.length - (i + 1).toNat)
          case measure => have := HK.out; have := HP2.out; have := HI.out; omega
          case rel => exact ⟨n, i + 1, rfl, by rw [show wrap64 (i + 1) = i + 1 from w64 (by have := HI.out; omega) (by have := HP2.out; have := H32.out; omega)], ⟨by have := HI.out; have := HP2.out; omega⟩, ⟨by have := HDR.out; rw [hR1]; omega⟩, ⟨below_step HB4.out HBJ.out⟩, ⟨rfl⟩⟩
    · have dd1 : decide (i < (fs.length : Int)) = false := decide_eq_false hp
      have hdr := HN.out
      rw [drop_none_ fs i hp] at hdr
      have g1 : decide ((fs.length : Int) ≤ 32) = true := decide_eq_true (by have := H32.out; omega)
      have g3 : decide (fs.length ≤ 32) = true := decide_eq_true H32.out
      have g2 : decide (n ≤ 4096) = true := decide_eq_true (by have := HCN.out; simp [cntP] at hdr; unfold cntP at this; omega)
      have HB9 := Aside0.mk (below_step HB1.out HB.out)
      clear hp hdr
      go_wp2_with fail
      refine (turntablelaw06_works.calls true _ rfl).mono ?_
      rintro e w9 ⟨rfl, hb_⟩
      have HBZ := Aside0.mk (below_step HB9.out hb_)
      clear hb_
      go_wp2
      (try simp only [Exit.inBlock, Exit.then])
      go_ret
      exact ⟨rfl, HBZ.out⟩
end Go.Proofs.Ytkjdblbgmomieaa.PSh
end
