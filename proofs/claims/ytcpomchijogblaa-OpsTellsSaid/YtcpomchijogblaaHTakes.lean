/- What the program's ops.Takes answers: the types that an operation takes, out of its row of the table. -/
import Derived.Test.YtcpomchijogblaaHOf
namespace Go.Proofs.Ytcpomchijogblaa.POp
open Go.RowKit Go.Proofs.YtcpomchijogblaaW.PrintWords Go.Proofs.YtcpomchijogblaaW.PrintLast Go.Proofs.YtcpomchijogblaaW.PrintMore Go.Proofs.Ytcpomchijogblaa.Str
set_option linter.unusedVariables false
set_option linter.unusedSimpArgs false

def nz (t : Int) : List Int := if t = 0 then [] else [t]
theorem nz_zero : nz 0 = [] := rfl
theorem nz_some {t : Int} (h : t ≠ 0) : nz t = [t] := if_neg h
def takesTo (i : Nat) (a b : Int) : List Int := if i = 0 then [] else if i = 1 then nz a else nz a ++ nz b
theorem takesTo0 (a b : Int) : takesTo 0 a b = [] := rfl
theorem takesTo1 (a b : Int) : takesTo 1 a b = nz a := rfl
theorem takesTo2 (a b : Int) : takesTo 2 a b = nz a ++ nz b := rfl
def ops_Takes.f (a0 : Int) : Option (List Int) := some (nz (opOf a0).t0 ++ nz (opOf a0).t1)

set_option maxHeartbeats 2000000 in
set_option maxRecDepth 100000 in
theorem ops_Takes.calls (a0 : Int) (r : List Int) (w : World) (h : ops_Takes.f a0 = some r) :
    Calls Try.prog 39 #[.int .i64 a0] w fun e w' => ∃ v0_ : Value, e = .returned (v0_) ∧ Kd.R (Kd.int .i64) 3 w' w.heap.size (fun _ => True) v0_ r ∧ Below w.heap.size w w' := by
  obtain rfl := Option.some.inj h
  clear h
  have hu85 := Try.underlying85
  have hof := fun W => of_calls a0 W
  have hfd : ∀ (o : OpRow) (W : World), (Instr.field 87 (.agg (rowCells o).toArray) 1).run Try.prog W = .ok (.agg #[.int .i64 o.t0, .int .i64 o.t1]) W := fun _ _ => by show _ = _; kernel_rfl
  have hx0 : ∀ (a b : Int) (W : World), (Instr.index 85 (.agg #[.int .i64 a, .int .i64 b]) (.int .i64 ((0 : Nat) : Int))).run Try.prog W = .ok (.int .i64 a) W := fun _ _ _ => by show _ = _; kernel_rfl
  have hx1 : ∀ (a b : Int) (W : World), (Instr.index 85 (.agg #[.int .i64 a, .int .i64 b]) (.int .i64 ((1 : Nat) : Int))).run Try.prog W = .ok (.int .i64 b) W := fun _ _ _ => by show _ = _; kernel_rfl
  have hy0 : ∀ (a b : Int) (W : World), (Instr.index 85 (.agg #[.int .i64 a, .int .i64 b]) (.int .i64 0)).run Try.prog W = .ok (.int .i64 a) W := fun _ _ _ => by show _ = _; kernel_rfl
  have hy1 : ∀ (a b : Int) (W : World), (Instr.index 85 (.agg #[.int .i64 a, .int .i64 b]) (.int .i64 1)).run Try.prog W = .ok (.int .i64 b) W := fun _ _ _ => by show _ = _; kernel_rfl
  obtain ⟨o, ho⟩ : ∃ o, opOf a0 = o := ⟨_, rfl⟩
  rw [ho] at hof ⊢
  clear ho
  go_enter Try.func39, Try.ntmps39
  go_wp2_with fail
  refine (hof _).mono ?_
  rintro e w0 ⟨rfl, hb⟩
  have HB0 := Aside0.mk hb
  clear hb hof
  go_wp2
  go_loopg [3, 9] 2 (fun kq v3 v9 w' => ∃ i : Nat, v9 = .int .i64 i ∧ Aside0 (i ≤ 2) ∧ Aside0 (Kd.R (Kd.int .i64) 3 w' w.heap.size (fun _ => True) v3 (takesTo i o.t0 o.t1)) ∧ Aside0 (Below w.heap.size w w') ∧ Aside0 (kq = 2 - i))
  case atStart => exact ⟨0, rfl, ⟨by omega⟩, ⟨Kd.R_nil _ _ _ _ _⟩, HB0, ⟨rfl⟩⟩
  case round =>
    obtain ⟨i, rfl, HI, HR, HB, HK⟩ := hrel
    have hi := HI.out
    by_cases hi2 : i < 2
    · have hi3 : i = 0 ∨ i = 1 := by omega
      clear hi hi2
      rcases hi3 with rfl | rfl
      · rw [takesTo0] at HR
        by_cases hz : o.t0 = 0
        · have hzb : (o.t0 != 0) = false := bne_eq_false_iff_eq.mpr hz
          go_wp2
          go_roundg 1
          case measure => have := HK.out; omega
          case rel =>
            refine ⟨1, rfl, ⟨by omega⟩, ?_, HB, ⟨rfl⟩⟩
            rw [takesTo1, hz]; exact HR
        · have hzb : (o.t0 != 0) = true := bne_iff_ne.mpr hz
          obtain ⟨A0, q0, rfl⟩ := Kd.R_slice HR.out
          go_wp2_with (at_builtin; refine Kd.R_append (Kd.int .i64) (w0 := w) (W := wr) w.heap.size rfl (.tmp 14) (.tmp 16) 40 3 (.int .i64 0) 8 rfl Try.underlying40 info3 rfl (by decide) (by omega) (.slice A0 ([] : List Int).length q0) ([] : List Int) o.t0 [.int .i64 o.t0] (fun _ => True) (fun _ => False) rfl rfl rfl (fun _ hk => hk.elim) (fun _ _ => trivial) HR.out HB.out HB.out.size (by simp) ?_; intro v2 w2 ho2 hb2 hg2 hat2; have HO2 := Aside0.mk ho2; have HB2 := Aside0.mk hb2; clear ho2 hb2 hg2 hat2)
          go_roundg 1
          case measure => have := HK.out; omega
          case rel =>
            refine ⟨1, rfl, ⟨by omega⟩, ⟨?_⟩, HB2, ⟨rfl⟩⟩
            rw [takesTo1, nz_some hz]; exact HO2.out
      · rw [takesTo1] at HR
        by_cases hz : o.t1 = 0
        · have hzb : (o.t1 != 0) = false := bne_eq_false_iff_eq.mpr hz
          go_wp2
          go_roundg 0
          case measure => have := HK.out; omega
          case rel =>
            refine ⟨2, rfl, ⟨by omega⟩, ?_, HB, ⟨rfl⟩⟩
            rw [takesTo2, hz, nz_zero, List.append_nil]; exact HR
        · have hzb : (o.t1 != 0) = true := bne_iff_ne.mpr hz
          obtain ⟨A0, q0, rfl⟩ := Kd.R_slice HR.out
          go_wp2_with (at_builtin; refine Kd.R_append (Kd.int .i64) (w0 := w) (W := wr) w.heap.size rfl (.tmp 14) (.tmp 16) 40 3 (.int .i64 0) 8 rfl Try.underlying40 info3 rfl (by decide) (by omega) (.slice A0 (nz o.t0).length q0) (nz o.t0) o.t1 [.int .i64 o.t1] (fun _ => True) (fun _ => False) rfl rfl rfl (fun _ hk => hk.elim) (fun _ _ => trivial) HR.out HB.out HB.out.size (by unfold nz; split <;> simp) ?_; intro v2 w2 ho2 hb2 hg2 hat2; have HO2 := Aside0.mk ho2; have HB2 := Aside0.mk hb2; clear ho2 hb2 hg2 hat2)
          go_roundg 0
          case measure => have := HK.out; omega
          case rel =>
            refine ⟨2, rfl, ⟨by omega⟩, ⟨?_⟩, HB2, ⟨rfl⟩⟩
            rw [takesTo2, nz_some hz]; exact HO2.out
    · have hi3 : i = 2 := by omega
      subst hi3
      clear hi hi2
      rw [takesTo2] at HR
      go_wp2
      go_ret
      exact ⟨_, rfl, HR.out, HB.out⟩
end Go.Proofs.Ytcpomchijogblaa.POp
