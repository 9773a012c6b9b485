/- Whether a list of numbers has one outside 0 to size-1, as slices.ContainsFunc tells it with the program's two literals: code.inst's and code.Check's. -/
import Derived.Test.YtpjehipemljkpaaHPieces
import Derived.Lib.OthersKept
namespace Go.Proofs.Ytpjehipemljkpaa.PCo
open Go.RowKit Go.Proofs.YtpjehipemljkpaaW.PrintWords Go.Proofs.YtpjehipemljkpaaW.PrintLast Go.Proofs.YtpjehipemljkpaaW.PrintMore
set_option linter.unusedVariables false
set_option linter.unusedSimpArgs false

def offB (n s : Int) : Bool := decide (s < 0) || decide (n ≤ s)
theorem offB_neg {n s : Int} (h : s < 0) : offB n s = true := by unfold offB; rw [decide_eq_true h]; rfl
theorem offB_ge {n s : Int} (h : ¬ s < 0) (g : n ≤ s) : offB n s = true := by unfold offB; rw [decide_eq_true g, Bool.or_true]
theorem offB_in {n s : Int} (h : ¬ s < 0) (g : ¬ n ≤ s) : offB n s = false := by unfold offB; rw [decide_eq_false h, decide_eq_false g]; rfl
theorem any_succ (l : List Int) (p : Int → Bool) (i : Nat) (hi : i < l.length) : (l.take (i + 1)).any p = ((l.take i).any p || p (rd l i)) := by
  rw [List.take_succ_eq_append_getElem hi, List.any_append]
  congr 1
  show (p l[i] || false) = _
  rw [Bool.or_false]
  congr 1
  unfold rd
  rw [List.getD_eq_getElem?_getD, Int.toNat_natCast, List.getElem?_eq_getElem hi]
  rfl
theorem any_hit (l : List Int) (p : Int → Bool) (i : Nat) (hi : i < l.length) (h : p (rd l i) = true) : l.any p = true := by
  have h1 := any_succ l p i hi
  rw [h, Bool.or_true] at h1
  obtain ⟨x, hx, hp⟩ := List.any_eq_true.mp h1
  exact List.any_eq_true.mpr ⟨x, List.mem_of_mem_take hx, hp⟩

set_option maxHeartbeats 1000000 in
theorem off_two (s n : Int) (g : Nat) (w : World) (hc : w.cell? ⟨g, 0, none⟩ = some (.int .i64 n)) :
    Calls Try.prog 72 #[.int .i64 s, .pointer (some ⟨g, 0, none⟩)] w fun e w' => e = .returned (.bool (offB n s)) ∧ w = w' := by
  by_cases h1 : s < 0
  · have d1 : decide (s < 0) = true := decide_eq_true h1
    rw [offB_neg h1]
    clear h1
    go_enter Try.func72, Try.ntmps72
    go_wp2
    go_ret
    exact ⟨rfl, rfl⟩
  · have d1 : decide (s < 0) = false := decide_eq_false h1
    by_cases h2 : n ≤ s
    · have d2 : decide (n ≤ s) = true := decide_eq_true h2
      rw [offB_ge h1 h2]
      clear h1 h2
      go_enter Try.func72, Try.ntmps72
      go_wp2
      go_ret
      exact ⟨rfl, rfl⟩
    · have d2 : decide (n ≤ s) = false := decide_eq_false h2
      rw [offB_in h1 h2]
      clear h1 h2
      go_enter Try.func72, Try.ntmps72
      go_wp2
      go_ret
      exact ⟨rfl, rfl⟩

set_option maxHeartbeats 2000000 in
theorem index_two (l : List Int) (A0 : Option Addr) (c0 : Nat) (n : Int) (g : Nat) (w : World) (hr0 : Kd.C (Kd.int .i64) w A0 l.length l) (hc : w.cell? ⟨g, 0, none⟩ = some (.int .i64 n)) :
    Calls Try.prog 67 #[.slice A0 l.length c0, .func (.func 72) #[] #[.pointer (some ⟨g, 0, none⟩)]] w fun e w' => (∃ i : Int, e = .returned (.int .i64 i) ∧ (l.any (offB n) = decide (0 ≤ i))) ∧ w = w' := by
  have HR0 := Aside0.mk hr0
  have HL := Aside0.mk (show l.length ≤ 9223372036854775807 from hr0.2.1)
  clear hr0
  go_enter Try.func67, Try.ntmps67
  go_wp2
  go_loopg [8] l.length (fun kq v8 w' => ∃ i : Nat, v8 = .int .i64 i ∧ Aside0 (i ≤ l.length) ∧ Aside0 ((l.take i).any (offB n) = false) ∧ w = w' ∧ Aside0 (kq = l.length - i))
  case atStart => exact ⟨0, rfl, ⟨by omega⟩, ⟨rfl⟩, rfl, ⟨rfl⟩⟩
  case round =>
    obtain ⟨i, rfl, HI, HP, rfl, HK⟩ := hrel
    by_cases hi : i < l.length
    · have hs := any_succ l (offB n) i hi
      rw [HP.out, Bool.false_or] at hs
      have HS := Aside0.mk hs
      clear hs
      have c0b : decide ((i : Int) < (l.length : Int)) = true := decide_eq_true (by omega)
      have c1b : decide (i < l.length) = true := decide_eq_true (by omega)
      obtain ⟨ad, ea, hx⟩ := Kd.at_int HR0.out i (by omega) (by omega)
      cases ea
      rw [Int.toNat_natCast] at hx
      have hlen := HL.out
      have hi9 : (i : Int) < 9223372036854775807 := by omega
      have HI2 := Aside0.mk hi
      clear hi
      have p0 : (0 ≤ (i : Int)) = True := eq_true (by omega)
      have q0 : ((i : Int) < (l.length : Int)) = True := eq_true (by have := HI2.out; omega)
      cases hb : offB n (rd l i) with
      | true =>
        have hit := any_hit l (offB n) i HI2.out hb
        have HB := Aside0.mk hb
        have HIT := Aside0.mk hit
        clear hb hit
        have hcl := off_two (rd l i) n g w hc
        rw [HB.out] at hcl
        go_wp2_with (go_at_call 72; refine hcl.mono ?_; rintro e w' ⟨rfl, rfl⟩)
        go_ret
        exact ⟨⟨_, rfl, by rw [HIT.out]; exact (decide_eq_true (by omega)).symm⟩, rfl⟩
      | false =>
        have HB := Aside0.mk hb
        clear hb
        have hcl := off_two (rd l i) n g w hc
        rw [HB.out] at hcl
        go_wp2_with (go_at_call 72; refine hcl.mono ?_; rintro e w' ⟨rfl, rfl⟩)
        go_roundg (l.length - (i + 1))
        case measure => have := HK.out; have := HI2.out; omega
        case rel => exact ⟨i + 1, by simp, ⟨by have := HI2.out; omega⟩, ⟨by rw [HS.out]; exact HB.out⟩, rfl, ⟨rfl⟩⟩
    · have hn := HP.out
      rw [List.take_of_length_le (by omega)] at hn
      have HN := Aside0.mk hn
      clear hn
      have c0b : decide ((i : Int) < (l.length : Int)) = false := decide_eq_false (by omega)
      have c1b : decide (i < l.length) = false := decide_eq_false (by omega)
      clear hi
      go_wp2
      go_ret
      exact ⟨⟨_, rfl, by rw [HN.out]; rfl⟩, rfl⟩

set_option maxHeartbeats 1000000 in
theorem contains_two (l : List Int) (A0 : Option Addr) (c0 : Nat) (n : Int) (g : Nat) (w : World) (hr0 : Kd.C (Kd.int .i64) w A0 l.length l) (hc : w.cell? ⟨g, 0, none⟩ = some (.int .i64 n)) :
    Calls Try.prog 32 #[.slice A0 l.length c0, .func (.func 72) #[] #[.pointer (some ⟨g, 0, none⟩)]] w fun e w' => e = .returned (.bool (l.any (offB n))) ∧ w = w' := by
  have hix := index_two l A0 c0 n g w hr0 hc
  clear hr0 hc
  go_enter Try.func32, Try.ntmps32
  go_wp2_with (go_at_call 67; refine hix.mono ?_; rintro e w' ⟨⟨i, rfl, hi⟩, rfl⟩; have HI := Aside0.mk hi; clear hi)
  go_ret
  exact ⟨by rw [HI.out]; rfl, rfl⟩

set_option maxHeartbeats 1000000 in
theorem off_one (s n : Int) (g : Nat) (w : World) (hc : w.cell? ⟨g, 1, none⟩ = some (.int .i64 n)) :
    Calls Try.prog 33 #[.int .i64 s, .pointer (some ⟨g, 0, none⟩)] w fun e w' => e = .returned (.bool (offB n s)) ∧ w = w' := by
  by_cases h1 : s < 0
  · have d1 : decide (s < 0) = true := decide_eq_true h1
    rw [offB_neg h1]
    clear h1
    go_enter Try.func33, Try.ntmps33
    go_wp2
    go_ret
    exact ⟨rfl, rfl⟩
  · have d1 : decide (s < 0) = false := decide_eq_false h1
    by_cases h2 : n ≤ s
    · have d2 : decide (n ≤ s) = true := decide_eq_true h2
      rw [offB_ge h1 h2]
      clear h1 h2
      go_enter Try.func33, Try.ntmps33
      go_wp2
      go_ret
      exact ⟨rfl, rfl⟩
    · have d2 : decide (n ≤ s) = false := decide_eq_false h2
      rw [offB_in h1 h2]
      clear h1 h2
      go_enter Try.func33, Try.ntmps33
      go_wp2
      go_ret
      exact ⟨rfl, rfl⟩

set_option maxHeartbeats 2000000 in
theorem index_one (l : List Int) (A0 : Option Addr) (c0 : Nat) (n : Int) (g : Nat) (w : World) (hr0 : Kd.C (Kd.int .i64) w A0 l.length l) (hc : w.cell? ⟨g, 1, none⟩ = some (.int .i64 n)) :
    Calls Try.prog 67 #[.slice A0 l.length c0, .func (.func 33) #[] #[.pointer (some ⟨g, 0, none⟩)]] w fun e w' => (∃ i : Int, e = .returned (.int .i64 i) ∧ (l.any (offB n) = decide (0 ≤ i))) ∧ w = w' := by
  have HR0 := Aside0.mk hr0
  have HL := Aside0.mk (show l.length ≤ 9223372036854775807 from hr0.2.1)
  clear hr0
  go_enter Try.func67, Try.ntmps67
  go_wp2
  go_loopg [8] l.length (fun kq v8 w' => ∃ i : Nat, v8 = .int .i64 i ∧ Aside0 (i ≤ l.length) ∧ Aside0 ((l.take i).any (offB n) = false) ∧ w = w' ∧ Aside0 (kq = l.length - i))
  case atStart => exact ⟨0, rfl, ⟨by omega⟩, ⟨rfl⟩, rfl, ⟨rfl⟩⟩
  case round =>
    obtain ⟨i, rfl, HI, HP, rfl, HK⟩ := hrel
    by_cases hi : i < l.length
    · have hs := any_succ l (offB n) i hi
      rw [HP.out, Bool.false_or] at hs
      have HS := Aside0.mk hs
      clear hs
      have c0b : decide ((i : Int) < (l.length : Int)) = true := decide_eq_true (by omega)
      have c1b : decide (i < l.length) = true := decide_eq_true (by omega)
      obtain ⟨ad, ea, hx⟩ := Kd.at_int HR0.out i (by omega) (by omega)
      cases ea
      rw [Int.toNat_natCast] at hx
      have hlen := HL.out
      have hi9 : (i : Int) < 9223372036854775807 := by omega
      have HI2 := Aside0.mk hi
      clear hi
      have p0 : (0 ≤ (i : Int)) = True := eq_true (by omega)
      have q0 : ((i : Int) < (l.length : Int)) = True := eq_true (by have := HI2.out; omega)
      cases hb : offB n (rd l i) with
      | true =>
        have hit := any_hit l (offB n) i HI2.out hb
        have HB := Aside0.mk hb
        have HIT := Aside0.mk hit
        clear hb hit
        have hcl := off_one (rd l i) n g w hc
        rw [HB.out] at hcl
        go_wp2_with (go_at_call 33; refine hcl.mono ?_; rintro e w' ⟨rfl, rfl⟩)
        go_ret
        exact ⟨⟨_, rfl, by rw [HIT.out]; exact (decide_eq_true (by omega)).symm⟩, rfl⟩
      | false =>
        have HB := Aside0.mk hb
        clear hb
        have hcl := off_one (rd l i) n g w hc
        rw [HB.out] at hcl
        go_wp2_with (go_at_call 33; refine hcl.mono ?_; rintro e w' ⟨rfl, rfl⟩)
        go_roundg (l.length - (i + 1))
        case measure => have := HK.out; have := HI2.out; omega
        case rel => exact ⟨i + 1, by simp, ⟨by have := HI2.out; omega⟩, ⟨by rw [HS.out]; exact HB.out⟩, rfl, ⟨rfl⟩⟩
    · have hn := HP.out
      rw [List.take_of_length_le (by omega)] at hn
      have HN := Aside0.mk hn
      clear hn
      have c0b : decide ((i : Int) < (l.length : Int)) = false := decide_eq_false (by omega)
      have c1b : decide (i < l.length) = false := decide_eq_false (by omega)
      clear hi
      go_wp2
      go_ret
      exact ⟨⟨_, rfl, by rw [HN.out]; rfl⟩, rfl⟩

set_option maxHeartbeats 1000000 in
theorem contains_one (l : List Int) (A0 : Option Addr) (c0 : Nat) (n : Int) (g : Nat) (w : World) (hr0 : Kd.C (Kd.int .i64) w A0 l.length l) (hc : w.cell? ⟨g, 1, none⟩ = some (.int .i64 n)) :
    Calls Try.prog 32 #[.slice A0 l.length c0, .func (.func 33) #[] #[.pointer (some ⟨g, 0, none⟩)]] w fun e w' => e = .returned (.bool (l.any (offB n))) ∧ w = w' := by
  have hix := index_one l A0 c0 n g w hr0 hc
  clear hr0 hc
  go_enter Try.func32, Try.ntmps32
  go_wp2_with (go_at_call 67; refine hix.mono ?_; rintro e w' ⟨⟨i, rfl, hi⟩, rfl⟩; have HI := Aside0.mk hi; clear hi)
  go_ret
  exact ⟨by rw [HI.out]; rfl, rfl⟩
end Go.Proofs.Ytpjehipemljkpaa.PCo
