/- turntablelaw12.works: the example that the laws of the pool try. -/
import Derived.Test.YtcpomchijogblaaHReach
import Derived.Test.YtcpomchijogblaaPPox1
namespace Go.Proofs.Ytcpomchijogblaa.PPo
open Go.RowKit Go.Proofs.YtcpomchijogblaaW.PrintWords Go.Proofs.YtcpomchijogblaaW.PrintLast Go.Proofs.YtcpomchijogblaaW.PrintMore Go.Proofs.Ytcpomchijogblaa.Str
set_option linter.unusedVariables false
set_option linter.unusedSimpArgs false

theorem C_pair (W : World) (a b : Int) : Kd.C (Kd.int .i64) (W.alloc (.cells #[.int .i64 a, .int .i64 b] 3)) (some ⟨W.heap.size, 0, none⟩) 2 [a, b] := by
  have R : Kd.R (Kd.int .i64) 3 (W.alloc (.cells #[.int .i64 a, .int .i64 b] 3)) W.heap.size (fun _ => True) (.slice (some ⟨W.heap.size, 0, none⟩) 2 2) [a, b] :=
    ⟨fun _ _ => trivial, [.int .i64 a, .int .i64 b], World.ownsRow_lit (base := W.heap.size) (e := 3) (size := 1) W #[.int .i64 a, .int .i64 b] 2 (Nat.le_refl _) (by decide) rfl, Reps.one (show Kd.M (Kd.int .i64) _ _ _ a [.int .i64 a] from rfl) (Reps.one (show Kd.M (Kd.int .i64) _ _ _ b [.int .i64 b] from rfl) (Reps.none _ _))⟩
  obtain ⟨A, c, e, -, hC⟩ := Kd.R_reads R
  injection e with e1 e2 e3
  rw [← e1] at hC
  exact hC
def wL1 : List S73 := [⟨⟨2, 2⟩, [0, 0]⟩]
def wL2 : List S73 := [⟨⟨2, 2⟩, [0, 0]⟩, ⟨⟨1, 0⟩, [0]⟩]
def wL3 : List S73 := [⟨⟨2, 2⟩, [0, 2]⟩, ⟨⟨1, 0⟩, [0]⟩]
theorem w_t1 : trapP wL2 1 1 true = 0 := by decide +kernel
theorem w_t2 : trapP wL3 1 1 true = 0 := by decide +kernel
theorem w_l2 : loadP wL3 1 1 true = 2 := by decide +kernel
theorem w_t3 : trapP wL3 1 0 true = 2 := by decide +kernel
theorem w_t4 : trapP wL3 0 0 false = 1 := by decide +kernel
theorem w_s1 : slotP wL3 1 0 = 0 := by decide +kernel
theorem w_s2 : slotP wL3 2 1 = 2 := by decide +kernel
theorem w_r : reachP wL3 [1, 9] = [1, 2] := by decide +kernel
theorem w_sh0 : (shapeP wL3 2).f0 = 1 := by decide +kernel
theorem w_sh1 : (shapeP wL3 2).f1 = 0 := by decide +kernel
set_option maxHeartbeats 8000000 in
set_option maxRecDepth 100000 in
theorem pool_works.calls (w : World) : Calls Try.prog 10 #[] w fun e w' => e = .returned (.bool true) ∧ Below w.heap.size w w' := by
  have hu70 := Try.underlying70
  have hu31 := Try.underlying31
  have hfl31 : ∀ (u0 u1 : Value) (W : World), (Instr.field 31 (.agg #[u0, u1]) 0).run Try.prog W = .ok (u0) W := fun _ _ _ => by show _ = _; kernel_rfl
  go_enter Try.func10, Try.ntmps10
  go_wp2_with fail
  refine (pool_New.calls _).mono ?_
  rintro e w1 ⟨g, rfl, hp1, hb1⟩
  have HP1 := Aside0.mk hp1
  have HB1 := Aside0.mk hb1
  clear hp1 hb1
  go_wp2_with fail
  refine (pool_Make.calls 2 2 (by decide) (by decide) _ HP1.out (fun k hk => Nat.le_trans (below_size HB1.out) hk) (below_size HB1.out) (by decide) (by decide)).mono ?_
  rintro e w2 ⟨rfl, ⟨v2, b2, hp2⟩, hb2, -⟩
  have HP2 := Aside0.mk (show PoolD w.heap.size (fun k => w.heap.size ≤ k) w2 g v2 [b2] wL1 3 from hp2)
  have HB2 := Aside0.mk (HB1.out.trans hb2)
  clear hp2 hb2
  go_wp2_with fail
  refine (pool_Make.calls 1 0 (by decide) (by decide) _ HP2.out (fun k hk => Nat.le_trans (below_size HB2.out) hk) (below_size HB2.out) (by decide) (by decide)).mono ?_
  rintro e w3 ⟨rfl, ⟨v3, b3, hp3⟩, hb3, -⟩
  have HP3 := Aside0.mk (show PoolD w.heap.size (fun k => w.heap.size ≤ k) w3 g v3 [b2, b3] wL2 5 from hp3)
  have HB3 := Aside0.mk (HB2.out.trans hb3)
  clear hp3 hb3
  go_wp2_with fail
  refine (pool_Store.calls 1 1 true 2 (by decide) _ HP3.out).mono ?_
  rw [w_t1]
  rintro e w4 ⟨rfl, w4', hb4, rfl⟩
  rw [if_pos rfl]
  have HP4 := Aside0.mk (show PoolD w.heap.size (fun k => w.heap.size ≤ k) (w4'.setCell ⟨[b2, b3].getD ((1 : Int) - 1).toNat 0, (1 : Int).toNat, none⟩ (.int .i64 2)) g v3 [b2, b3] wL3 5 from (HP3.out.below hb4).stored w_t1 2)
  have HB4 := Aside0.mk (show Below w.heap.size w (w4'.setCell ⟨[b2, b3].getD ((1 : Int) - 1).toNat 0, (1 : Int).toNat, none⟩ (.int .i64 2)) from Below.setCell (p := ⟨[b2, b3].getD ((1 : Int) - 1).toNat 0, (1 : Int).toNat, none⟩) (below_step HB3.out hb4) (by simpa using (HP3.out.slots 0 (by decide)).1) (.int .i64 2))
  clear hb4
  generalize w4'.setCell ⟨[b2, b3].getD ((1 : Int) - 1).toNat 0, (1 : Int).toNat, none⟩ (.int .i64 2) = w5 at HP4 HB4 ⊢
  go_wp2_with fail
  refine (pool_Load.calls 1 1 true (by decide) _ HP4.out).mono ?_
  rw [w_l2, w_t2]
  rintro e w6 ⟨rfl, hb6⟩
  have HP6 := Aside0.mk (HP4.out.below hb6)
  have HB6 := Aside0.mk (below_step HB4.out hb6)
  clear hb6
  go_wp2_with fail
  refine (pool_Load.calls 1 0 true (by decide) _ HP6.out).mono ?_
  rw [w_t3]
  rintro e w7 ⟨rfl, hb7⟩
  have HP7 := Aside0.mk (HP6.out.below hb7)
  have HB7 := Aside0.mk (below_step HB6.out hb7)
  clear hb7
  go_wp2_with fail
  refine (pool_Load.calls 0 0 false (by decide) _ HP7.out).mono ?_
  rw [w_t4]
  rintro e w8 ⟨rfl, hb8⟩
  have HP8 := Aside0.mk (HP7.out.below hb8)
  have HB8 := Aside0.mk (below_step HB7.out hb8)
  clear hb8
  go_wp2_with fail
  refine (pool_Slot.calls 1 0 (by decide) _ HP8.out).mono ?_
  rw [w_s1]
  rintro e w9 ⟨rfl, hb9⟩
  have HP9 := Aside0.mk (HP8.out.below hb9)
  have HB9 := Aside0.mk (below_step HB8.out hb9)
  clear hb9
  go_wp2_with fail
  refine (pool_Slot.calls 2 1 (by decide) _ HP9.out).mono ?_
  rw [w_s2]
  rintro e w10 ⟨rfl, hb10⟩
  have HP10 := Aside0.mk (HP9.out.below hb10)
  have HB10 := Aside0.mk (below_step HB9.out hb10)
  clear hb10
  go_wp2_with fail
  refine (pool_Len.calls _ HP10.out).mono ?_
  rintro e w11 ⟨rfl, rfl⟩
  go_wp2_with fail
  refine (pool_Words.calls _ HP10.out).mono ?_
  rintro e w12 ⟨rfl, rfl⟩
  go_wp2_with fail
  have hb13 : Below w12.heap.size w12 (w12.alloc (.cells #[.int .i64 1, .int .i64 9] 3)) := below_alloc (Below.refl _ _) _
  refine (pool_Reach.calls (some ⟨w12.heap.size, 0, none⟩) 2 [1, 9] _ (HP10.out.below hb13) (C_pair w12 1 9) (by decide)).mono ?_
  rw [w_r]
  rintro e w14 ⟨⟨A14, rfl, hc14⟩, hb14⟩
  have hb14b := hb13.trans (hb14.mono hb13.size)
  have HP14 := Aside0.mk (HP10.out.below hb14b)
  have HB14 := Aside0.mk (below_step HB10.out hb14b)
  have HC14 := Aside0.mk hc14
  clear hb13 hb14 hb14b hc14
  go_wp2_with fail
  have hb15 : Below w14.heap.size w14 (w14.alloc (.cells #[.int .i64 1, .int .i64 2] 3)) := below_alloc (Below.refl _ _) _
  refine (turntableref05_Ints.calls 10 A14 2 [1, 2] (some ⟨w14.heap.size, 0, none⟩) 2 [1, 2] true _ (Kd.C_below HC14.out hb15) (by decide) (C_pair w14 1 2) (by decide) (by decide +kernel)).mono ?_
  rintro e w16 ⟨rfl, ⟨n16, rfl⟩⟩
  have hb16b := pw_below_drewN hb15 n16
  have HP16 := Aside0.mk (HP14.out.below hb16b)
  have HB16 := Aside0.mk (below_step HB14.out hb16b)
  clear hb15 hb16b
  go_wp2_with fail
  refine (pool_Shape.calls 2 _ HP16.out).mono ?_
  rw [w_sh0, w_sh1]
  rintro e w17 ⟨rfl, hb17⟩
  have HB17 := Aside0.mk (below_step HB16.out hb17)
  clear hb17
  go_wp2
  go_ret
  exact ⟨rfl, HB17.out⟩
end Go.Proofs.Ytcpomchijogblaa.PPo
