/- How a number is written, seven bits a byte, and how the program's reader finds it again. -/
import Derived.Test.YtpjehipemljkpaaCodeLaw
import Derived.Laws.BitsLemmas
namespace Go.Proofs.Ytpjehipemljkpaa.CodeLaw
open Go.RowKit Go.Proofs.Ytpjehipemljkpaa.PCo Go.Proofs.YtpjehipemljkpaaW.PrintWords Go.Proofs.YtpjehipemljkpaaW.PrintLast Go.Proofs.YtpjehipemljkpaaW.PrintMore Go.Proofs.Ytpjehipemljkpaa.Str
set_option linter.unusedSimpArgs false
set_option linter.unusedVariables false

/-- A number as bytes. -/
def vint (n : Nat) : List Int := if n < 128 then [(n : Int)] else ((n % 128 + 128 : Nat) : Int) :: vint (n / 128)
  termination_by n
  decreasing_by omega
theorem vint_small {n : Nat} (h : n < 128) : vint n = [(n : Int)] := by rw [vint, if_pos h]
theorem vint_big {n : Nat} (h : ¬ n < 128) : vint n = ((n % 128 + 128 : Nat) : Int) :: vint (n / 128) := by rw [vint, if_neg h]

/-- How many numbers may stand behind j bytes. -/
def room (j : Nat) : Nat := 2 ^ (64 - 7 * j)
theorem j_cases {j : Nat} (h : j ≤ 9) : j = 0 ∨ j = 1 ∨ j = 2 ∨ j = 3 ∨ j = 4 ∨ j = 5 ∨ j = 6 ∨ j = 7 ∨ j = 8 ∨ j = 9 := by omega
theorem room_succ {j : Nat} (h : j ≤ 8) : room j = 128 * room (j + 1) := by
  rcases j_cases (by omega : j ≤ 9) with rfl | rfl | rfl | rfl | rfl | rfl | rfl | rfl | rfl | rfl <;> first | rfl | omega
theorem room_last : room 9 = 2 := rfl
theorem room_big {j : Nat} (h : j ≤ 8) : 128 ≤ room j := by
  rcases j_cases (by omega : j ≤ 9) with rfl | rfl | rfl | rfl | rfl | rfl | rfl | rfl | rfl | rfl <;> first | omega | decide

def Bytes (s : List Int) : Prop := ∀ c ∈ s, 0 ≤ c ∧ c < 256
/-- The number that bytes begin with, behind j bytes of it. -/
def numP : Nat → List Int → Option (Nat × List Int)
  | _, [] => none
  | j, c :: s => if (j = 9 ∧ 1 < c) ∨ (c = 0 ∧ 0 < j) then none else if c < 128 then some (c.toNat, s) else (numP (j + 1) s).map fun p => ((c - 128).toNat + 128 * p.1, p.2)
theorem numP_some : ∀ (s : List Int) (j : Nat), Bytes s → j ≤ 9 → ∀ n r, numP j s = some (n, r) → n < room j ∧ s = vint n ++ r ∧ (0 < j → 0 < n) := by
  intro s
  induction s with
  | nil => intro j _ _ n r h; simp [numP] at h
  | cons c s ih =>
    intro j hs hj n r h
    have hc := hs c (by simp)
    simp only [numP] at h
    by_cases h1 : (j = 9 ∧ 1 < c) ∨ (c = 0 ∧ 0 < j)
    · rw [if_pos h1] at h; cases h
    · rw [if_neg h1] at h
      by_cases h2 : c < 128
      · rw [if_pos h2] at h
        obtain ⟨rfl, rfl⟩ := Prod.mk.inj (Option.some.inj h)
        refine ⟨?_, ?_, fun h => by omega⟩
        · by_cases h9 : j = 9
          · subst h9; rw [room_last]; omega
          · have := room_big (show j ≤ 8 by omega); omega
        · rw [vint_small (by omega)]
          show _ = [((c.toNat : Nat) : Int)] ++ _
          rw [Int.toNat_of_nonneg hc.1]; rfl
      · rw [if_neg h2] at h
        obtain ⟨⟨v, r'⟩, hv, he⟩ := Option.map_eq_some_iff.mp h
        obtain ⟨rfl, rfl⟩ := Prod.mk.inj he
        have hj8 : j ≤ 8 := by omega
        obtain ⟨i1, i2, i3⟩ := ih (j + 1) (fun c h => hs c (by simp [h])) (by omega) v r' hv
        have hr := room_succ hj8
        have hv0 := i3 (by omega)
        have hn : ¬ (c - 128).toNat + 128 * v < 128 := by omega
        refine ⟨by show (c - 128).toNat + 128 * v < _; omega, ?_, fun _ => by show 0 < (c - 128).toNat + 128 * v; omega⟩
        show _ = vint ((c - 128).toNat + 128 * v) ++ r'
        rw [vint_big hn, i2]
        have e1 : ((((c - 128).toNat + 128 * v) % 128 + 128 : Nat) : Int) = c := by omega
        have e2 : ((c - 128).toNat + 128 * v) / 128 = v := by omega
        rw [e1, e2]; rfl
theorem numP_vint : ∀ (n j : Nat) (r : List Int), j ≤ 9 → n < room j → (0 < j → 0 < n) → numP j (vint n ++ r) = some (n, r) := by
  intro n
  induction n using Nat.strongRecOn with
  | ind n ih =>
    intro j r hj hn h0
    by_cases h : n < 128
    · rw [vint_small h]
      show numP j ((n : Int) :: r) = _
      simp only [numP]
      rw [if_neg (fun e => by
        rcases e with ⟨rfl, e⟩ | ⟨e1, e2⟩
        · rw [room_last] at hn; omega
        · have := h0 e2; omega), if_pos (by omega)]
      simp
    · rw [vint_big h]
      show numP j (((n % 128 + 128 : Nat) : Int) :: (vint (n / 128) ++ r)) = _
      have hj8 : j ≤ 8 := by
        by_cases h9 : j = 9
        · subst h9; rw [room_last] at hn; omega
        · omega
      have hr := room_succ hj8
      simp only [numP]
      rw [if_neg (by omega), if_neg (by omega), ih (n / 128) (by omega) (j + 1) r (by omega) (by omega) (by omega)]
      show some (_, r) = _
      have e : (((n % 128 + 128 : Nat) : Int) - 128).toNat + 128 * (n / 128) = n := by omega
      rw [e]

/-! ### bits -/
theorem u64_wrap (n : Int) : IntKind.u64.wrap n = n % 18446744073709551616 := by simp [IntKind.wrap, IntKind.bits, IntKind.signed]
theorem or_comm (k : IntKind) (x y : Int) : Go.bits .or k x y = Go.bits .or k y x := by
  show k.wrap ((BitVec.ofInt k.bits x ||| BitVec.ofInt k.bits y).toNat : Int) = k.wrap ((BitVec.ofInt k.bits y ||| BitVec.ofInt k.bits x).toNat : Int)
  rw [BitVec.or_comm]
theorem and127 (c : Int) (h : 0 ≤ c ∧ c < 256) : Go.bits .and .u8 c 127 = c % 128 := bits_mask .u8 8 (by decide) wraps_u8 7 (by decide) c h.1 h.2
theorem wraps_u64 (n : Int) (h₀ : 0 ≤ n) (h₁ : n < 2 ^ 64) : IntKind.u64.wrap n = n := by rw [u64_wrap]; omega
theorem put_in (acc c : Int) (j : Nat) (hj : j ≤ 9) (h0 : 0 ≤ acc) (h1 : acc < 2 ^ (7 * j)) (hc : 0 ≤ c ∧ c < 256) (h9 : j = 9 → c ≤ 1) :
    Go.bits .or .u64 acc (shl .u64 (IntKind.u64.wrap (Go.bits .and .u8 c 127)) ((7 * j : Nat) : Int)) = acc + (c % 128) * 2 ^ (7 * j) := by
  rw [and127 c hc, or_comm]
  have hw : IntKind.u64.wrap (c % 128) = c % 128 := by rw [u64_wrap]; omega
  rw [hw]
  have hs : shl .u64 (c % 128) ((7 * j : Nat) : Int) = (c % 128) * 2 ^ (7 * j) := by
    unfold shl
    have : min ((7 * j : Nat) : Int).toNat IntKind.u64.bits = 7 * j := by
      rw [Int.toNat_natCast]
      show min (7 * j) 64 = 7 * j
      omega
    rw [this, u64_wrap]
    rcases j_cases hj with rfl | rfl | rfl | rfl | rfl | rfl | rfl | rfl | rfl | rfl <;> omega
  rw [hs, bits_join .u64 64 (by decide) wraps_u64 (7 * j) _ acc ?_ ?_ ?_ h0 h1 ?_]
  · omega
  · rcases j_cases hj with rfl | rfl | rfl | rfl | rfl | rfl | rfl | rfl | rfl | rfl <;> omega
  · rcases j_cases hj with rfl | rfl | rfl | rfl | rfl | rfl | rfl | rfl | rfl | rfl <;> omega
  · rcases j_cases hj with rfl | rfl | rfl | rfl | rfl | rfl | rfl | rfl | rfl | rfl <;> omega
  · rcases j_cases hj with rfl | rfl | rfl | rfl | rfl | rfl | rfl | rfl | rfl | rfl <;> omega

/-! ### the reader's number -/
theorem drop_cons {b : List Int} {i : Nat} (h : i < b.length) : b.drop i = b[i] :: b.drop (i + 1) := List.drop_eq_getElem_cons h
theorem fail_ev (b : List Int) (at_ c ea : Int) (x y : Int) (h : c = 0) : code_reader_fail.f b at_ c ea x y = some (at_, x, y) := by
  unfold code_reader_fail.f
  rw [if_pos h]
theorem fail_ev2 (b : List Int) (at_ c ea : Int) (x y : Int) (h : c ≠ 0) : code_reader_fail.f b at_ c ea x y = some (at_, c, ea) := by
  unfold code_reader_fail.f
  rw [if_neg h]
/-- What the reader's number is: where the bytes are none, something is wrong from 'from' on. -/
def NumRes (b : List Int) (frm ea : Int) (g : Nat → Option (Int × Int × Int × Int)) (f : Nat → Int) : Option (Nat × List Int) → Prop
  | some (v, r) => Ev g (f v, ((b.length - r.length : Nat) : Int), 0, ea)
  | none => ∃ (at' : Nat) (c : Int), at' ≤ b.length ∧ c ≠ 0 ∧ Ev g (0, (at' : Int), c, frm)
theorem number_l0 (b : List Int) (hb : Bytes b) (hl : b.length ≤ 9223372036854775806) (frm ea : Int) : ∀ (d i j : Nat) (acc : Int), b.length - i = d → i ≤ b.length → j ≤ 9 → 0 ≤ acc → acc < 2 ^ (7 * j) →
    NumRes b frm ea (fun k => code_reader_number.l0 k acc frm ((7 * j : Nat) : Int) b (i : Int) 0 ea) (fun v => acc + 2 ^ (7 * j) * v) (numP j (b.drop i)) := by
  intro d
  induction d with
  | zero =>
    intro i j acc hd hi hj h0 h1
    rw [List.drop_eq_nil_of_le (by omega)]
    refine ⟨i, 17, hi, by decide, Ev.step (fun k => by simp only [code_reader_number.l0]; rfl) (ev_pos (c := (0 : Int) = 0) rfl (ev_pos (by omega) (ev_some (fail_ev b _ 0 ea 17 frm rfl) (Ev.now _))))⟩
  | succ d ih =>
    intro i j acc hd hi hj h0 h1
    have hlt : i < b.length := by omega
    have hc := hb b[i] (List.getElem_mem hlt)
    have hw : wrap64 ((i : Int) + 1) = ((i + 1 : Nat) : Int) := by rw [w64 (by omega) (by omega)]; omega
    rw [drop_cons hlt]
    -- the way behind the byte's test
    have hj1 : ∀ x : Bool, (x = true ↔ ((j = 9 ∧ 1 < b[i]) ∨ (b[i] = 0 ∧ 0 < j))) → NumRes b frm ea (fun k => code_reader_number.j1 k acc frm ((7 * j : Nat) : Int) b[i] x b ((i + 1 : Nat) : Int) 0 ea) (fun v => acc + 2 ^ (7 * j) * v) (numP j (b[i] :: b.drop (i + 1))) := by
      intro x hx
      simp only [numP]
      cases x
      · rw [if_neg (fun h => by have := hx.2 h; cases this)]
        have h9 : j = 9 → b[i] ≤ 1 := fun h => by
          by_cases hh : 1 < b[i]
          · have := hx.2 (.inl ⟨h, hh⟩); cases this
          · omega
        have hput := put_in acc b[i] j hj h0 h1 hc h9
        by_cases h2 : b[i] < 128
        · rw [if_pos h2]
          show Ev _ (_, _, _, _)
          refine Ev.step (fun k => by simp only [code_reader_number.j1]; rfl) (ev_neg (by simp) (ev_pos (by omega) (ev_pos h2 ?_)))
          rw [hput]
          have e1 : acc + b[i] % 128 * 2 ^ (7 * j) = acc + 2 ^ (7 * j) * ((b[i].toNat : Nat) : Int) := by
            rw [Int.toNat_of_nonneg hc.1, Int.emod_eq_of_lt hc.1 h2, Int.mul_comm]
          have e2 : b.length - (b.drop (i + 1)).length = i + 1 := by rw [List.length_drop]; omega
          rw [e1, e2]
          exact Ev.now _
        · rw [if_neg h2]
          have hj8 : j ≤ 8 := by
            by_cases hh : j = 9
            · have := h9 hh; omega
            · omega
          have hacc : acc + b[i] % 128 * 2 ^ (7 * j) < 2 ^ (7 * (j + 1)) ∧ (2 : Int) ^ (7 * (j + 1)) = 128 * 2 ^ (7 * j) := by
            rcases j_cases hj with rfl | rfl | rfl | rfl | rfl | rfl | rfl | rfl | rfl | rfl <;> first | (exfalso; omega) | (constructor <;> omega)
          have hpos : (0 : Int) < 2 ^ (7 * j) := by
            rcases j_cases hj with rfl | rfl | rfl | rfl | rfl | rfl | rfl | rfl | rfl | rfl <;> omega
          have hrec := ih (i + 1) (j + 1) (acc + b[i] % 128 * 2 ^ (7 * j)) (by omega) (by omega) (by omega) (by have := Int.mul_nonneg (show 0 ≤ b[i] % 128 by omega) (Int.le_of_lt hpos); omega) hacc.1
          have hw7 : wrap64 (((7 * j : Nat) : Int) + 7) = ((7 * (j + 1) : Nat) : Int) := by rw [w64 (by omega) (by omega)]; omega
          have hstep : ∀ {r}, Ev (fun k => code_reader_number.l0 k (acc + b[i] % 128 * 2 ^ (7 * j)) frm ((7 * (j + 1) : Nat) : Int) b ((i + 1 : Nat) : Int) 0 ea) r → Ev (fun k => code_reader_number.j1 k acc frm ((7 * j : Nat) : Int) b[i] false b ((i + 1 : Nat) : Int) 0 ea) r := by
            intro r h
            refine Ev.step (fun k => by simp only [code_reader_number.j1]; rfl) (ev_neg (by simp) (ev_pos (by omega) (ev_neg h2 ?_)))
            rw [hput, hw7]
            exact h
          cases hn : numP (j + 1) (b.drop (i + 1)) with
          | none =>
            rw [hn] at hrec
            obtain ⟨at', c, g1, g2, g3⟩ := hrec
            exact ⟨at', c, g1, g2, hstep g3⟩
          | some p =>
            obtain ⟨v, r⟩ := p
            rw [hn] at hrec
            show Ev _ (acc + 2 ^ (7 * j) * (((b[i] - 128).toNat + 128 * v : Nat) : Int), _, _, _)
            have e1 : acc + 2 ^ (7 * j) * (((b[i] - 128).toNat + 128 * v : Nat) : Int) = acc + b[i] % 128 * 2 ^ (7 * j) + 2 ^ (7 * (j + 1)) * (v : Int) := by
              have e3 : (((b[i] - 128).toNat + 128 * v : Nat) : Int) = b[i] % 128 + 128 * v := by omega
              rw [e3, hacc.2, Int.mul_add, Int.mul_comm (2 ^ (7 * j)) (b[i] % 128), ← Int.mul_assoc, Int.mul_comm (2 ^ (7 * j)) 128]
              omega
            rw [e1]
            exact hstep hrec
      · rw [if_pos (hx.1 rfl)]
        exact ⟨i + 1, 3, by omega, by decide, Ev.step (fun k => by simp only [code_reader_number.j1]; rfl) (ev_pos (c := true = true) rfl (ev_some (fail_ev b _ 0 ea 3 frm rfl) (Ev.now _)))⟩
    have hgo : ∀ {r} (x : Bool), (x = true ↔ ((j = 9 ∧ 1 < b[i]) ∨ (b[i] = 0 ∧ 0 < j))) → Ev (fun k => code_reader_number.j1 k acc frm ((7 * j : Nat) : Int) b[i] x b ((i + 1 : Nat) : Int) 0 ea) r → Ev (fun k => code_reader_number.l0 k acc frm ((7 * j : Nat) : Int) b (i : Int) 0 ea) r := by
      intro r x hx h
      refine Ev.step (fun k => by simp only [code_reader_number.l0]; rfl) (ev_pos (c := (0 : Int) = 0) rfl (ev_neg (by omega) (ev_pos (by omega) (ev_pos (by omega) ?_))))
      rw [rd_at b i hlt, hw]
      have zero : decide (((7 * j : Nat) : Int) > 0) = decide (0 < j) := by congr 1; exact propext (by omega)
      rw [zero]
      by_cases h63 : ((7 * j : Nat) : Int) = 63
      · refine ev_pos h63 ?_
        by_cases hgt : b[i] > 1
        · have e : x = true := hx.2 (.inl ⟨by omega, hgt⟩)
          rw [e] at h
          exact ev_pos hgt h
        · refine ev_neg hgt ?_
          by_cases hz : b[i] = 0
          · have e : x = decide (0 < j) := by
              cases x
              · exact (decide_eq_false (fun hh => by have := hx.2 (.inr ⟨hz, hh⟩); cases this)).symm
              · refine (decide_eq_true ?_).symm; rcases hx.1 rfl with hh | hh <;> omega
            rw [e] at h
            exact ev_pos hz h
          · have e : x = false := by
              cases x
              · rfl
              · rcases hx.1 rfl with hh | hh
                · exact absurd hh.2 (by omega)
                · exact absurd hh.1 hz
            rw [e] at h
            exact ev_neg hz h
      · refine ev_neg h63 ?_
        by_cases hz : b[i] = 0
        · have e : x = decide (0 < j) := by
            cases x
            · exact (decide_eq_false (fun hh => by have := hx.2 (.inr ⟨hz, hh⟩); cases this)).symm
            · refine (decide_eq_true ?_).symm; rcases hx.1 rfl with hh | hh <;> omega
          rw [e] at h
          exact ev_pos hz h
        · have e : x = false := by
            cases x
            · rfl
            · rcases hx.1 rfl with hh | hh
              · exact absurd hh.1 (by omega)
              · exact absurd hh.1 hz
          rw [e] at h
          exact ev_neg hz h
    have hx0 : ∃ x : Bool, (x = true ↔ ((j = 9 ∧ 1 < b[i]) ∨ (b[i] = 0 ∧ 0 < j))) := ⟨decide ((j = 9 ∧ 1 < b[i]) ∨ (b[i] = 0 ∧ 0 < j)), by simp⟩
    obtain ⟨x, hx⟩ := hx0
    have h := hj1 x hx
    cases hn : numP j (b[i] :: b.drop (i + 1)) with
    | none =>
      rw [hn] at h
      obtain ⟨at', c, g1, g2, g3⟩ := h
      exact ⟨at', c, g1, g2, hgo x hx g3⟩
    | some p =>
      obtain ⟨v, r⟩ := p
      rw [hn] at h
      exact hgo x hx h
theorem number_any (b : List Int) (hb : Bytes b) (hl : b.length ≤ 9223372036854775806) (i : Nat) (hi : i ≤ b.length) (ea : Int) :
    NumRes b (i : Int) ea (fun k => code_reader_number.f k b (i : Int) 0 ea) (fun v => v) (numP 0 (b.drop i)) := by
  have h := number_l0 b hb hl (i : Int) ea _ i 0 0 rfl hi (by omega) (by omega) (by decide)
  show NumRes b (i : Int) ea (fun k => code_reader_number.l0 k 0 (i : Int) 0 b (i : Int) 0 ea) (fun v : Nat => (v : Int)) _
  cases hn : numP 0 (b.drop i) with
  | none => rw [hn] at h; exact h
  | some p =>
    obtain ⟨v, r⟩ := p
    rw [hn] at h
    have h2 : Ev (fun k => code_reader_number.l0 k 0 (i : Int) 0 b (i : Int) 0 ea) ((0 : Int) + 2 ^ (7 * 0) * (v : Int), ((b.length - r.length : Nat) : Int), 0, ea) := h
    show Ev _ ((v : Int), _, _, _)
    have e2 : (0 : Int) + 2 ^ (7 * 0) * (v : Int) = v := by simp
    rw [e2] at h2
    exact h2
/-- Where something is wrong already, nothing is read any more. -/
theorem number_off (b : List Int) (at_ c ea : Int) (h : c ≠ 0) : Ev (fun k => code_reader_number.f k b at_ c ea) (0, at_, c, ea) := by
  show Ev (fun k => code_reader_number.l0 k 0 at_ 0 b at_ c ea) _
  exact Ev.step (fun k => by simp only [code_reader_number.l0]; rfl) (ev_neg h (Ev.now _))
end Go.Proofs.Ytpjehipemljkpaa.CodeLaw
