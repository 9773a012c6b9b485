/- The program prints each number of 64 bits in the digits that the reference gives; no conditions. -/
import Derived.Test.YthnkgnbemmndgaaDigLaw2
namespace Go.Proofs.Ythnkgnbemmndgaa.Pure
set_option linter.unusedSimpArgs false
open Go.RowKit Go.Proofs.Ythnkgnbemmndgaa.PDg Go.Proofs.YthnkgnbemmndgaaW.PrintWords Go.Proofs.YthnkgnbemmndgaaW.PrintLast Go.Proofs.YthnkgnbemmndgaaW.PrintMore Go.Proofs.Ythnkgnbemmndgaa.Str Go.Proofs.Ythnkgnbemmndgaa.Dig Go.Proofs.Ythnkgnbemmndgaa.DigLaw

theorem one_byte (d : Int) (h0 : 0 ≤ d) (h1 : d < 10) : strOfNums [(wrap64 (48 + d)) % 256] = mk [UInt8.ofNat (48 + d.toNat)] := by
  apply nums_one
  rw [dig_nat _ (by omega), w64 (by omega) (by omega)]
  omega

theorem ref_loop (x0 : Int) : ∀ (m : Nat) (k4 : Int) (acc : List UInt8), k4.natAbs = m → -9223372036854775808 ≤ k4 → k4 ≤ 9223372036854775807 → acc.length + (pd k4.natAbs).length ≤ 100 →
    Ev (fun k => turntableref01_Print.l0 k x0 (mk acc) k4) (mk (if x0 < 0 then 45 :: (pd k4.natAbs ++ acc) else pd k4.natAbs ++ acc)) := by
  intro m
  induction m using Nat.strongRecOn with
  | _ m ih =>
    intro k4 acc hm hlo hhi hlen
    by_cases hz : k4 = 0
    · subst hz
      simp only [Int.natAbs_zero, pd_zero, List.nil_append] at hlen ⊢
      have hlen2 : acc.length ≤ 100 := by simpa using hlen
      refine Ev.step (f := fun _ => if x0 < 0 then some (mk [45] ++ mk acc) else some (mk acc)) (fun k => ?_) ?_
      · simp only [turntableref01_Print.l0]
        rw [if_pos trivial]
        by_cases h : x0 < 0
        · rw [if_pos h, if_pos h, if_pos (by rw [mk_size]; omega)]
        · rw [if_neg h, if_neg h]
      · refine ev_if (fun h => ?_) (fun h => ?_)
        · rw [if_pos h, mk_append]; exact Ev.now _
        · rw [if_neg h]; exact Ev.now _
    · have hp := pd_pos (n := k4.natAbs) (by omega)
      have hq : (k4.tdiv 10).natAbs = k4.natAbs / 10 := by rw [Int.natAbs_tdiv]; rfl
      have hr : (k4.tmod 10).natAbs = k4.natAbs % 10 := by rw [Int.natAbs_tmod]; rfl
      have hb : -9223372036854775808 ≤ k4.tdiv 10 ∧ k4.tdiv 10 ≤ 9223372036854775807 := by omega
      have hw : wrap64 (k4.tdiv 10) = k4.tdiv 10 := w64 hb.1 hb.2
      have hl2 : (UInt8.ofNat (48 + k4.natAbs % 10) :: acc).length + (pd (k4.tdiv 10).natAbs).length ≤ 100 := by
        rw [hq]; rw [hp] at hlen; simp at hlen ⊢; omega
      have hacc : acc.length ≤ 100 := by omega
      have key := ih (k4.tdiv 10).natAbs (by omega) (k4.tdiv 10) (UInt8.ofNat (48 + k4.natAbs % 10) :: acc) rfl hb.1 hb.2 hl2
      have e : (if x0 < 0 then 45 :: (pd (k4.tdiv 10).natAbs ++ UInt8.ofNat (48 + k4.natAbs % 10) :: acc) else pd (k4.tdiv 10).natAbs ++ UInt8.ofNat (48 + k4.natAbs % 10) :: acc) = (if x0 < 0 then 45 :: (pd k4.natAbs ++ acc) else pd k4.natAbs ++ acc) := by
        rw [hp, hq]; simp
      rw [e] at key
      refine Ev.step (f := fun k => turntableref01_Print.l0 k x0 (mk (UInt8.ofNat (48 + k4.natAbs % 10) :: acc)) (k4.tdiv 10)) (fun k => ?_) key
      have hsz : ∀ c, (mk [c]).size + (mk acc).size ≤ 9223372036854775807 := fun c => by rw [mk_size, mk_size]; simp; omega
      simp only [turntableref01_Print.l0]
      rw [if_neg hz]
      by_cases hs : k4.tmod 10 < 0
      · have e1 : wrap64 (-(k4.tmod 10)) = ((k4.natAbs % 10 : Nat) : Int) := by rw [w64 (by omega) (by omega)]; omega
        rw [if_pos hs, e1]
        simp only [Option.bind_some]
        rw [one_byte _ (by omega) (by omega), Int.toNat_natCast, if_pos (hsz _), mk_append, hw]
        rfl
      · have e1 : k4.tmod 10 = ((k4.natAbs % 10 : Nat) : Int) := by omega
        rw [if_neg hs, e1]
        simp only [Option.bind_some]
        rw [one_byte _ (by omega) (by omega), Int.toNat_natCast, if_pos (hsz _), mk_append, hw]
        rfl

theorem ref_print (a : Int) (h0 : -9223372036854775808 ≤ a) (h1 : a ≤ 9223372036854775807) : Ev (fun k => turntableref01_Print.f k a) (mk (digs a)) := by
  unfold turntableref01_Print.f
  refine ev_if (fun h => ?_) (fun h => ?_)
  · subst h; exact Ev.now _
  · have hl := pd_len 30 a.natAbs (by omega)
    have := ref_loop a _ a [] rfl h0 h1 (by simp; omega)
    have e : (if a < 0 then 45 :: (pd a.natAbs ++ []) else pd a.natAbs ++ []) = digs a := by
      unfold digs; rw [if_neg h]; simp
    rw [e] at this
    exact this

theorem DigitsPrints : turntablelaw01_DigitsPrints.Pure := by
  intro a b ha hb
  obtain ⟨a0, a1⟩ := i64_bounds ha
  obtain ⟨b0, b1⟩ := i64_bounds hb
  refine Ev.rounds ?_
  unfold turntablelaw01_DigitsPrints.f
  refine ev_some (f := fun k t122 => (turntableref01_Print.f k a).bind fun t123 => (if t122.toList = t123.toList then ((digits_Small.f b).bind fun t124 => ((turntableref01_Print.f k b).bind fun t125 => (if t124.toList = t125.toList then ((turntablelaw01_works.f k).bind fun t126 => (some t126)) else (some false)))) else (some false))) (print_some a a0 a1) ?_
  refine Ev.bind (ref_print a a0 a1) ?_
  refine ev_pos rfl (ev_some (small_some b b0 b1) ?_)
  refine Ev.bind (ref_print b b0 b1) ?_
  exact ev_pos rfl (Ev.bind works_ev (Ev.now _))

end Go.Proofs.Ythnkgnbemmndgaa.Pure
