/- What the program's code.Read answers: the bodies that the bytes are by the plain parser, or that something is wrong. -/
import Derived.Test.YtpjehipemljkpaaCodeEnc
namespace Go.Proofs.Ytpjehipemljkpaa.CodeLaw
open Go.RowKit Go.Proofs.Ytpjehipemljkpaa.PCo Go.Proofs.YtpjehipemljkpaaW.PrintWords Go.Proofs.YtpjehipemljkpaaW.PrintLast Go.Proofs.YtpjehipemljkpaaW.PrintMore Go.Proofs.Ytpjehipemljkpaa.Str
set_option linter.unusedSimpArgs false
set_option linter.unusedVariables false

/-- A reader's answer: the parser's, or that something is wrong. -/
def Res {α β : Type} (b : List Int) (g : Nat → Option β) (out : α → Int → Int → Int → β) (ea : Int) : Option (α × List Int) → Prop
  | some (v, r) => Ev g (out v ((b.length - r.length : Nat) : Int) 0 ea)
  | none => ∃ (v : α) (at' c e' : Int), c ≠ 0 ∧ 0 ≤ e' ∧ Ev g (out v at' c e')
theorem suf {b p r : List Int} {i : Nat} (h : b.drop i = p ++ r) : b.drop (b.length - r.length) = r ∧ b.length - r.length ≤ b.length := by
  have e : b = (b.take i ++ p) ++ r := by rw [List.append_assoc, ← h, List.take_append_drop]
  refine ⟨?_, by omega⟩
  have key : ∀ q : List Int, b = q ++ r → b.drop (b.length - r.length) = r := by
    intro q e
    rw [e, List.length_append, Nat.add_sub_cancel]
    exact List.drop_left
  exact key _ e
section
variable (b : List Int) (hb : Bytes b) (hl : b.length ≤ 9223372036854775806)
theorem bytes_drop (hb : Bytes b) (i : Nat) : Bytes (b.drop i) := fun c hc => hb c (List.mem_of_mem_drop hc)
def outN (v : Nat) (a c e : Int) : Int × Int × Int × Int := ((v : Int), a, c, e)
include hb hl
theorem upto_any (i : Nat) (hi : i ≤ b.length) (ea : Int) (top : Nat) (ht : top < 9223372036854775808) : Res b (fun k => code_reader_upto.f k b (i : Int) 0 ea (top : Int)) outN ea (upP top (b.drop i)) := by
  have h := number_any b hb hl i hi ea
  have hw : IntKind.u64.wrap (top : Int) = top := by rw [u64_wrap]; omega
  unfold upP
  cases hn : numP 0 (b.drop i) with
  | none =>
    rw [hn] at h
    obtain ⟨at', c, -, g2, g3⟩ := h
    refine ⟨0, at', c, i, g2, by omega, ?_⟩
    unfold code_reader_upto.f
    refine ev_bind' g3 ?_
    rw [hw]
    refine ev_neg (by omega) ?_
    show Ev (fun _ => some (wrap64 (0 : Int), (at' : Int), c, (i : Int))) _
    rw [show wrap64 (0 : Int) = 0 from w64 (by omega) (by omega)]
    exact Ev.now _
  | some p =>
    obtain ⟨v, r⟩ := p
    rw [hn] at h
    have g3 : Ev (fun k => code_reader_number.f k b (i : Int) 0 ea) ((v : Int), ((b.length - r.length : Nat) : Int), 0, ea) := h
    show Res b _ outN ea (if v ≤ top then some (v, r) else none)
    by_cases hv : v ≤ top
    · rw [if_pos hv]
      show Ev _ (outN v _ 0 ea)
      unfold code_reader_upto.f
      refine ev_bind' g3 ?_
      rw [hw]
      refine ev_neg (by omega) ?_
      rw [show wrap64 (v : Int) = v from w64 (by omega) (by omega)]
      exact Ev.now _
    · rw [if_neg hv]
      refine ⟨0, ((b.length - r.length : Nat) : Int), 18, i, by decide, by omega, ?_⟩
      unfold code_reader_upto.f
      refine ev_bind' g3 ?_
      rw [hw]
      exact ev_pos (by omega) (ev_some (fail_ev b _ 0 ea 18 i rfl) (Ev.now _))
omit hb hl
theorem upto_off (at_ c ea : Int) (top : Nat) (ht : top < 9223372036854775808) (h : c ≠ 0) : Ev (fun k => code_reader_upto.f k b at_ c ea (top : Int)) (0, at_, c, ea) := by
  have hw : IntKind.u64.wrap (top : Int) = top := by rw [u64_wrap]; omega
  unfold code_reader_upto.f
  refine ev_bind' (number_off b at_ c ea h) ?_
  rw [hw]
  refine ev_neg (by omega) ?_
  show Ev (fun _ => some (wrap64 (0 : Int), at_, c, ea)) _
  rw [show wrap64 (0 : Int) = 0 from w64 (by omega) (by omega)]
  exact Ev.now _

/-! ### slots -/
def outS (acc : List Int) (v : List Int) (a c e : Int) : List Int × Int × Int × Int := (acc ++ v, a, c, e)
theorem slots_off (acc : List Int) (n at_ c ea : Int) (h : c ≠ 0) : Ev (fun k => code_reader_slots.l0 k acc n b at_ c ea) (acc, at_, c, ea) := by
  refine Ev.step (fun k => by simp only [code_reader_slots.l0]; rfl) ?_
  by_cases hn : n > 0
  · exact ev_pos hn (ev_neg h (Ev.now _))
  · exact ev_neg hn (Ev.now _)
include hb hl
theorem slots_l0 (ea : Int) : ∀ (n i : Nat) (acc : List Int), i ≤ b.length → n ≤ 8 → acc.length + n ≤ 100 → Res b (fun k => code_reader_slots.l0 k acc (n : Int) b (i : Int) 0 ea) (outS acc) ea (listP n (b.drop i)) := by
  intro n
  induction n with
  | zero =>
    intro i acc hi _ _
    show Ev _ (acc ++ [], ((b.length - (b.drop i).length : Nat) : Int), 0, ea)
    have e : b.length - (b.drop i).length = i := by rw [List.length_drop]; omega
    rw [e, List.append_nil]
    exact Ev.step (fun k => by simp only [code_reader_slots.l0]; rfl) (ev_neg (by omega) (Ev.now _))
  | succ n ih =>
    intro i acc hi hn ha
    have hu := upto_any b hb hl i hi ea 4096 (by omega)
    have hw : wrap64 (((n + 1 : Nat) : Int) - 1) = (n : Int) := by rw [w64 (by omega) (by omega)]; omega
    have hstep : ∀ {v at' c e' r}, Ev (fun k => code_reader_upto.f k b (i : Int) 0 ea 4096) (v, at', c, e') → Ev (fun k => code_reader_slots.l0 k (acc ++ [v]) (n : Int) b at' c e') r → Ev (fun k => code_reader_slots.l0 k acc ((n + 1 : Nat) : Int) b (i : Int) 0 ea) r := by
      intro v at' c e' r h1 h2
      refine Ev.step (fun k => by simp only [code_reader_slots.l0]; rfl) (ev_pos (by omega) (ev_pos (c := (0 : Int) = 0) rfl (ev_bind' h1 (ev_pos (c := acc.length < 17592186044416) (by omega) ?_))))
      rw [hw]
      exact h2
    show Res b _ (outS acc) ea ((upP 4096 (b.drop i)).bind _)
    cases hp : upP 4096 (b.drop i) with
    | none =>
      rw [hp] at hu
      obtain ⟨v, at', c, e', g1, g2, g3⟩ := hu
      exact ⟨[(v : Int)], at', c, e', g1, g2, hstep g3 (slots_off b _ _ _ _ _ g1)⟩
    | some p =>
      obtain ⟨v, r⟩ := p
      rw [hp] at hu
      obtain ⟨-, hs⟩ := upP_some (bytes_drop b hb i) hp
      obtain ⟨hs1, hs2⟩ := suf hs
      have hrec := ih (b.length - r.length) (acc ++ [(v : Int)]) hs2 (by omega) (by rw [List.length_append, List.length_singleton]; omega)
      rw [hs1] at hrec
      show Res b _ (outS acc) ea ((listP n r).bind _)
      cases hq : listP n r with
      | none =>
        rw [hq] at hrec
        obtain ⟨l, at', c, e', g1, g2, g3⟩ := hrec
        refine ⟨(v : Int) :: l, at', c, e', g1, g2, ?_⟩
        have := hstep hu g3
        unfold outS at this ⊢
        simpa using this
      | some q =>
        obtain ⟨l, r1⟩ := q
        rw [hq] at hrec
        show Ev _ (outS acc ((v : Int) :: l) _ 0 ea)
        have := hstep hu hrec
        unfold outS at this ⊢
        simpa using this
theorem slots_any (i : Nat) (hi : i ≤ b.length) (ea : Int) : Res b (fun k => code_reader_slots.f k b (i : Int) 0 ea) (outS []) ea (slotsP (b.drop i)) := by
  have hu := upto_any b hb hl i hi ea 8 (by omega)
  show Res b _ (outS []) ea ((upP 8 (b.drop i)).bind _)
  cases hp : upP 8 (b.drop i) with
  | none =>
    rw [hp] at hu
    obtain ⟨v, at', c, e', g1, g2, g3⟩ := hu
    exact ⟨[], at', c, e', g1, g2, by unfold code_reader_slots.f; exact ev_bind' g3 (slots_off b _ _ _ _ _ g1)⟩
  | some p =>
    obtain ⟨v, r⟩ := p
    rw [hp] at hu
    obtain ⟨hv, hs⟩ := upP_some (bytes_drop b hb i) hp
    obtain ⟨hs1, hs2⟩ := suf hs
    have hrec := slots_l0 b hb hl ea v (b.length - r.length) [] hs2 hv (by simp; omega)
    rw [hs1] at hrec
    show Res b _ (outS []) ea (listP v r)
    cases hq : listP v r with
    | none =>
      rw [hq] at hrec
      obtain ⟨l, at', c, e', g1, g2, g3⟩ := hrec
      exact ⟨l, at', c, e', g1, g2, by unfold code_reader_slots.f; exact ev_bind' hu g3⟩
    | some q =>
      obtain ⟨l, r1⟩ := q
      rw [hq] at hrec
      show Ev _ (outS [] l _ 0 ea)
      unfold code_reader_slots.f
      exact ev_bind' hu hrec
omit hb hl
theorem slots_offf (at_ c ea : Int) (h : c ≠ 0) : Ev (fun k => code_reader_slots.f k b at_ c ea) ([], at_, c, ea) := by
  unfold code_reader_slots.f
  exact ev_bind' (upto_off b at_ c ea 8 (by omega) h) (slots_off b _ _ _ _ _ h)
end

/-! ### an instruction -/
theorem xor_zero (n : Int) (h : -9223372036854775808 ≤ n ∧ n < 9223372036854775808) : Go.bits .xor .i64 n 0 = n := by
  show IntKind.i64.wrap ((BitVec.ofInt 64 n ^^^ BitVec.ofInt 64 0).toNat : Int) = n
  have e : BitVec.ofInt 64 0 = 0#64 := rfl
  rw [e, BitVec.xor_zero, BitVec.toNat_ofInt, IntKind.wrap_i64]
  omega
theorem xor_ones (n : Int) (h : -9223372036854775808 ≤ n ∧ n < 9223372036854775808) : Go.bits .xor .i64 n (-1) = -n - 1 := by
  show IntKind.i64.wrap ((BitVec.ofInt 64 n ^^^ BitVec.ofInt 64 (-1)).toNat : Int) = -n - 1
  have e : BitVec.ofInt 64 (-1) = BitVec.allOnes 64 := rfl
  rw [e, BitVec.xor_allOnes, BitVec.toNat_not, BitVec.toNat_ofInt, IntKind.wrap_i64]
  omega
theorem unzig_bits (n : Nat) (h : n < 18446744073709551616) : Go.bits .xor .i64 (wrap64 ((n : Int) / 2)) (wrap64 (-(wrap64 (Go.bits .and .u64 (n : Int) 1)))) = unzig n := by
  have h1 : Go.bits .and .u64 (n : Int) 1 = (n : Int) % 2 := bits_mask .u64 64 (by decide) wraps_u64 1 (by decide) n (by omega) (by omega)
  rw [h1]
  have h2 : wrap64 ((n : Int) / 2) = (n : Int) / 2 := w64 (by omega) (by omega)
  have h3 : wrap64 ((n : Int) % 2) = (n : Int) % 2 := w64 (by omega) (by omega)
  have h4 : wrap64 (-((n : Int) % 2)) = -((n : Int) % 2) := w64 (by omega) (by omega)
  rw [h2, h3, h4]
  unfold unzig
  by_cases hz : n % 2 = 0
  · rw [if_pos hz, show -((n : Int) % 2) = 0 by omega, xor_zero _ (by omega)]
    omega
  · rw [if_neg hz, show -((n : Int) % 2) = -1 by omega, xor_ones _ (by omega)]
    omega
def outI (v : S51) (a c e : Int) : Int × Int × Int × Int × Int × List Int × Int × Int × Int × Int × Int := (v.f0, v.f1, v.f2, v.f3, v.f4, v.f5, v.f6.f0, v.f6.f1, a, c, e)
section
variable (b : List Int) (hb : Bytes b) (hl : b.length ≤ 9223372036854775806)
def instL (k : Nat) (L : List Int) (j : Nat) (b : List Int) (a c e : Int) (x : S51) := code_reader_inst.l0 k L (L.length : Int) (j : Int) b a c e x.f0 x.f1 x.f2 x.f3 x.f4 x.f5 x.f6.f0 x.f6.f1
theorem inst_off (at_ c ea : Int) (h : c ≠ 0) : ∀ (ps pre : List Int) (x : S51), (pre ++ ps).length ≤ 100 → ∃ v, Ev (fun k => instL k (pre ++ ps) pre.length b at_ c ea x) (outI v at_ c ea) := by
  intro ps
  induction ps with
  | nil =>
    intro pre x hp
    exact ⟨x, Ev.step (fun k => by unfold instL; simp only [code_reader_inst.l0]; rfl) (ev_neg (by simp) (Ev.now _))⟩
  | cons p ps ih =>
    intro pre x hp
    have e : pre ++ p :: ps = (pre ++ [p]) ++ ps := by simp
    have hlen : ((pre ++ [p]).length : Int) = ((pre.length + 1 : Nat) : Int) := by simp
    have hr : rd (pre ++ p :: ps) (pre.length : Int) = p := by unfold rd; simp
    have hw : wrap64 ((pre.length : Int) + 1) = ((pre ++ [p]).length : Int) := by rw [w64 (by omega) (by simp at hp; omega), hlen]; omega
    have hnext := fun x => ih (pre ++ [p]) x (by rw [← e]; exact hp)
    rw [← e] at hnext
    have hup := fun top ht => upto_off b at_ c ea top ht h
    have hlt : (pre.length : Int) < ((pre ++ p :: ps).length : Int) := by simp; omega
    by_cases h0 : p = 0
    · subst h0
      obtain ⟨v, hv⟩ := hnext { x with f1 := wrap64 (0 - 1) }
      refine ⟨v, Ev.step (fun k => by unfold instL; simp only [code_reader_inst.l0]; rfl) (ev_pos hlt (ev_pos (by omega) (ev_pos hlt ?_)))⟩
      rw [hr, hw]
      exact ev_pos (c := (0 : Int) = 0) rfl (ev_bind' (hup 4097 (by omega)) hv)
    by_cases h1 : p = 1
    · subst h1
      obtain ⟨v, hv⟩ := hnext { x with f2 := wrap64 (0 - 1) }
      refine ⟨v, Ev.step (fun k => by unfold instL; simp only [code_reader_inst.l0]; rfl) (ev_pos hlt (ev_pos (by omega) (ev_pos hlt ?_)))⟩
      rw [hr, hw]
      exact ev_neg (by decide) (ev_pos (c := (1 : Int) = 1) rfl (ev_bind' (hup 4097 (by omega)) hv))
    by_cases h2 : p = 2
    · subst h2
      obtain ⟨v, hv⟩ := hnext { x with f3 := wrap64 (0 - 1) }
      refine ⟨v, Ev.step (fun k => by unfold instL; simp only [code_reader_inst.l0]; rfl) (ev_pos hlt (ev_pos (by omega) (ev_pos hlt ?_)))⟩
      rw [hr, hw]
      exact ev_neg (by decide) (ev_neg (by decide) (ev_pos (c := (2 : Int) = 2) rfl (ev_bind' (hup 4097 (by omega)) hv)))
    by_cases h3 : p = 3
    · subst h3
      obtain ⟨v, hv⟩ := hnext { x with f4 := 0 }
      refine ⟨v, Ev.step (fun k => by unfold instL; simp only [code_reader_inst.l0]; rfl) (ev_pos hlt (ev_pos (by omega) (ev_pos hlt ?_)))⟩
      rw [hr, hw]
      exact ev_neg (by decide) (ev_neg (by decide) (ev_neg (by decide) (ev_pos (c := (3 : Int) = 3) rfl (ev_bind' (hup 2097152 (by omega)) hv))))
    by_cases h4 : p = 4
    · subst h4
      obtain ⟨v, hv⟩ := hnext { x with f4 := Go.bits .xor .i64 (wrap64 (0 / 2)) (wrap64 (-(wrap64 (Go.bits .and .u64 0 1)))) }
      refine ⟨v, Ev.step (fun k => by unfold instL; simp only [code_reader_inst.l0]; rfl) (ev_pos hlt (ev_pos (by omega) (ev_pos hlt ?_)))⟩
      rw [hr, hw]
      exact ev_neg (by decide) (ev_neg (by decide) (ev_neg (by decide) (ev_neg (by decide) (ev_pos (c := (4 : Int) = 4) rfl (ev_bind' (number_off b at_ c ea h) hv)))))
    by_cases h5 : p = 5
    · subst h5
      obtain ⟨v, hv⟩ := hnext { x with f5 := [] }
      refine ⟨v, Ev.step (fun k => by unfold instL; simp only [code_reader_inst.l0]; rfl) (ev_pos hlt (ev_pos (by omega) (ev_pos hlt ?_)))⟩
      rw [hr, hw]
      exact ev_neg (by decide) (ev_neg (by decide) (ev_neg (by decide) (ev_neg (by decide) (ev_neg (by decide) (ev_pos (c := (5 : Int) = 5) rfl (ev_bind' (slots_offf b at_ c ea h) hv))))))
    by_cases h6 : p = 6
    · subst h6
      obtain ⟨v, hv⟩ := hnext { x with f6 := ⟨0, x.f6.f1⟩ }
      refine ⟨v, Ev.step (fun k => by unfold instL; simp only [code_reader_inst.l0]; rfl) (ev_pos hlt (ev_pos (by omega) (ev_pos hlt ?_)))⟩
      rw [hr, hw]
      exact ev_neg (by decide) (ev_neg (by decide) (ev_neg (by decide) (ev_neg (by decide) (ev_neg (by decide) (ev_neg (by decide) (ev_pos (c := (6 : Int) = 6) rfl (ev_bind' (hup 65536 (by omega)) hv)))))))
    by_cases h7 : p = 7
    · subst h7
      obtain ⟨v, hv⟩ := hnext { x with f6 := ⟨0, 0⟩ }
      refine ⟨v, Ev.step (fun k => by unfold instL; simp only [code_reader_inst.l0]; rfl) (ev_pos hlt (ev_pos (by omega) (ev_pos hlt ?_)))⟩
      rw [hr, hw]
      exact ev_neg (by decide) (ev_neg (by decide) (ev_neg (by decide) (ev_neg (by decide) (ev_neg (by decide) (ev_neg (by decide) (ev_neg (by decide) (ev_pos (c := (7 : Int) = 7) rfl (ev_bind' (hup 65536 (by omega)) (ev_bind' (hup 65536 (by omega)) hv)))))))))
    obtain ⟨v, hv⟩ := hnext x
    refine ⟨v, Ev.step (fun k => by unfold instL; simp only [code_reader_inst.l0]; rfl) (ev_pos hlt (ev_pos (by omega) (ev_pos hlt ?_)))⟩
    rw [hr, hw]
    exact ev_neg h0 (ev_neg h1 (ev_neg h2 (ev_neg h3 (ev_neg h4 (ev_neg h5 (ev_neg h6 (ev_neg h7 hv)))))))
include hb hl
theorem inst_on (ea : Int) : ∀ (ps pre : List Int) (x : S51) (i : Nat), i ≤ b.length → (pre ++ ps).length ≤ 100 → Res b (fun k => instL k (pre ++ ps) pre.length b (i : Int) 0 ea x) outI ea (piecesP ps x (b.drop i)) := by
  intro ps
  induction ps with
  | nil =>
    intro pre x i hi hp
    show Ev _ (outI x ((b.length - (b.drop i).length : Nat) : Int) 0 ea)
    have e : b.length - (b.drop i).length = i := by rw [List.length_drop]; omega
    rw [e]
    exact Ev.step (fun k => by unfold instL; simp only [code_reader_inst.l0]; rfl) (ev_neg (by simp) (Ev.now _))
  | cons p ps ih =>
    intro pre x i hi hp
    have e : pre ++ p :: ps = (pre ++ [p]) ++ ps := by simp
    have hlen : ((pre ++ [p]).length : Int) = ((pre.length + 1 : Nat) : Int) := by simp
    have hr : rd (pre ++ p :: ps) (pre.length : Int) = p := by unfold rd; simp
    have hw : wrap64 ((pre.length : Int) + 1) = ((pre ++ [p]).length : Int) := by rw [w64 (by omega) (by simp at hp; omega), hlen]; omega
    have hlt : (pre.length : Int) < ((pre ++ p :: ps).length : Int) := by simp; omega
    have hnext := fun x i hi => ih (pre ++ [p]) x i hi (by rw [← e]; exact hp)
    have hoff := fun at_ c ea h x => inst_off b at_ c ea h ps (pre ++ [p]) x (by rw [← e]; exact hp)
    rw [← e] at hnext hoff
    have hup := fun top ht => upto_any b hb hl i hi ea top ht
    have good : ∀ (x1 : S51) (r1 p1 : List Int), b.drop i = p1 ++ r1 → (∀ {r}, Ev (fun k => instL k (pre ++ p :: ps) (pre ++ [p]).length b ((b.length - r1.length : Nat) : Int) 0 ea x1) r → Ev (fun k => instL k (pre ++ p :: ps) pre.length b (i : Int) 0 ea x) r) →
        Res b (fun k => instL k (pre ++ p :: ps) pre.length b (i : Int) 0 ea x) outI ea (piecesP ps x1 r1) := by
      intro x1 r1 p1 hs hgo
      obtain ⟨hs1, hs2⟩ := suf hs
      have h := hnext x1 (b.length - r1.length) hs2
      rw [hs1] at h
      cases hq : piecesP ps x1 r1 with
      | none =>
        rw [hq] at h
        obtain ⟨v, at', c, e', g1, g2, g3⟩ := h
        exact ⟨v, at', c, e', g1, g2, hgo g3⟩
      | some q =>
        obtain ⟨v, r2⟩ := q
        rw [hq] at h
        exact hgo h
    have bad : ∀ (at' c e' : Int) (x1 : S51), c ≠ 0 → 0 ≤ e' → (∀ {r}, Ev (fun k => instL k (pre ++ p :: ps) (pre ++ [p]).length b at' c e' x1) r → Ev (fun k => instL k (pre ++ p :: ps) pre.length b (i : Int) 0 ea x) r) →
        Res b (fun k => instL k (pre ++ p :: ps) pre.length b (i : Int) 0 ea x) outI ea none := by
      intro at' c e' x1 g1 g2 hgo
      obtain ⟨v, hv⟩ := hoff at' c e' g1 x1
      exact ⟨v, at', c, e', g1, g2, hgo hv⟩
    have step : ∀ {g : Nat → Option (Int × Int × Int × Int × Int × List Int × Int × Int × Int × Int × Int)} {r}, (∀ k, instL (k + 1) (pre ++ p :: ps) pre.length b (i : Int) 0 ea x = if (pre.length : Int) < ((pre ++ p :: ps).length : Int) then (if 0 ≤ (pre.length : Int) then (if (pre.length : Int) < ((pre ++ p :: ps).length : Int) then g k else none) else none) else some (outI x (i : Int) 0 ea)) → Ev g r → Ev (fun k => instL k (pre ++ p :: ps) pre.length b (i : Int) 0 ea x) r :=
      fun h1 h2 => Ev.step h1 (ev_pos hlt (ev_pos (by omega) (ev_pos hlt h2)))
    by_cases h0 : p = 0
    · subst h0
      have hu := hup 4097 (by omega)
      show Res b _ outI ea (((upP 4097 (b.drop i)).map fun q => (({ x with f1 := (q.1 : Int) - 1 }) , q.2)).bind fun q => piecesP ps q.1 q.2)
      cases hq : upP 4097 (b.drop i) with
      | none =>
        rw [hq] at hu
        obtain ⟨v, at', c, e', g1, g2, g3⟩ := hu
        refine bad at' c e' { x with f1 := wrap64 ((v : Int) - 1) } g1 g2 (fun {r} h => ?_)
        refine step (fun k => by unfold instL; simp only [code_reader_inst.l0]; rfl) ?_
        rw [hr, hw]
        exact ev_pos (c := (0 : Int) = 0) rfl (ev_bind' g3 h)
      | some q =>
        obtain ⟨v, r1⟩ := q
        rw [hq] at hu
        obtain ⟨hv, hs⟩ := upP_some (bytes_drop b hb i) hq
        refine good { x with f1 := (v : Int) - 1 } r1 _ hs (fun {r} h => ?_)
        refine step (fun k => by unfold instL; simp only [code_reader_inst.l0]; rfl) ?_
        rw [hr, hw]
        have hv1 : wrap64 ((v : Int) - 1) = (v : Int) - 1 := w64 (by omega) (by omega)
        refine ev_pos (c := (0 : Int) = 0) rfl (ev_bind' hu ?_)
        show Ev (fun k => instL k (pre ++ 0 :: ps) (pre ++ [0]).length b ((b.length - r1.length : Nat) : Int) 0 ea { x with f1 := wrap64 ((v : Int) - 1) }) r
        rw [hv1]
        exact h
    by_cases h1 : p = 1
    · subst h1
      have hu := hup 4097 (by omega)
      show Res b _ outI ea (((upP 4097 (b.drop i)).map fun q => (({ x with f2 := (q.1 : Int) - 1 }) , q.2)).bind fun q => piecesP ps q.1 q.2)
      cases hq : upP 4097 (b.drop i) with
      | none =>
        rw [hq] at hu
        obtain ⟨v, at', c, e', g1, g2, g3⟩ := hu
        refine bad at' c e' { x with f2 := wrap64 ((v : Int) - 1) } g1 g2 (fun {r} h => ?_)
        refine step (fun k => by unfold instL; simp only [code_reader_inst.l0]; rfl) ?_
        rw [hr, hw]
        exact ev_neg (by decide) (ev_pos (c := (1 : Int) = 1) rfl (ev_bind' g3 h))
      | some q =>
        obtain ⟨v, r1⟩ := q
        rw [hq] at hu
        obtain ⟨hv, hs⟩ := upP_some (bytes_drop b hb i) hq
        refine good { x with f2 := (v : Int) - 1 } r1 _ hs (fun {r} h => ?_)
        refine step (fun k => by unfold instL; simp only [code_reader_inst.l0]; rfl) ?_
        rw [hr, hw]
        have hv1 : wrap64 ((v : Int) - 1) = (v : Int) - 1 := w64 (by omega) (by omega)
        refine ev_neg (by decide) (ev_pos (c := (1 : Int) = 1) rfl (ev_bind' hu ?_))
        show Ev (fun k => instL k (pre ++ 1 :: ps) (pre ++ [1]).length b ((b.length - r1.length : Nat) : Int) 0 ea { x with f2 := wrap64 ((v : Int) - 1) }) r
        rw [hv1]
        exact h
    by_cases h2 : p = 2
    · subst h2
      have hu := hup 4097 (by omega)
      show Res b _ outI ea (((upP 4097 (b.drop i)).map fun q => (({ x with f3 := (q.1 : Int) - 1 }) , q.2)).bind fun q => piecesP ps q.1 q.2)
      cases hq : upP 4097 (b.drop i) with
      | none =>
        rw [hq] at hu
        obtain ⟨v, at', c, e', g1, g2, g3⟩ := hu
        refine bad at' c e' { x with f3 := wrap64 ((v : Int) - 1) } g1 g2 (fun {r} h => ?_)
        refine step (fun k => by unfold instL; simp only [code_reader_inst.l0]; rfl) ?_
        rw [hr, hw]
        exact ev_neg (by decide) (ev_neg (by decide) (ev_pos (c := (2 : Int) = 2) rfl (ev_bind' g3 h)))
      | some q =>
        obtain ⟨v, r1⟩ := q
        rw [hq] at hu
        obtain ⟨hv, hs⟩ := upP_some (bytes_drop b hb i) hq
        refine good { x with f3 := (v : Int) - 1 } r1 _ hs (fun {r} h => ?_)
        refine step (fun k => by unfold instL; simp only [code_reader_inst.l0]; rfl) ?_
        rw [hr, hw]
        have hv1 : wrap64 ((v : Int) - 1) = (v : Int) - 1 := w64 (by omega) (by omega)
        refine ev_neg (by decide) (ev_neg (by decide) (ev_pos (c := (2 : Int) = 2) rfl (ev_bind' hu ?_)))
        show Ev (fun k => instL k (pre ++ 2 :: ps) (pre ++ [2]).length b ((b.length - r1.length : Nat) : Int) 0 ea { x with f3 := wrap64 ((v : Int) - 1) }) r
        rw [hv1]
        exact h
    by_cases h3 : p = 3
    · subst h3
      have hu := hup 2097152 (by omega)
      show Res b _ outI ea (((upP 2097152 (b.drop i)).map fun q => (({ x with f4 := (q.1 : Int) }) , q.2)).bind fun q => piecesP ps q.1 q.2)
      cases hq : upP 2097152 (b.drop i) with
      | none =>
        rw [hq] at hu
        obtain ⟨v, at', c, e', g1, g2, g3⟩ := hu
        refine bad at' c e' { x with f4 := (v : Int) } g1 g2 (fun {r} h => ?_)
        refine step (fun k => by unfold instL; simp only [code_reader_inst.l0]; rfl) ?_
        rw [hr, hw]
        exact ev_neg (by decide) (ev_neg (by decide) (ev_neg (by decide) (ev_pos (c := (3 : Int) = 3) rfl (ev_bind' g3 h))))
      | some q =>
        obtain ⟨v, r1⟩ := q
        rw [hq] at hu
        obtain ⟨hv, hs⟩ := upP_some (bytes_drop b hb i) hq
        refine good { x with f4 := (v : Int) } r1 _ hs (fun {r} h => ?_)
        refine step (fun k => by unfold instL; simp only [code_reader_inst.l0]; rfl) ?_
        rw [hr, hw]
        exact ev_neg (by decide) (ev_neg (by decide) (ev_neg (by decide) (ev_pos (c := (3 : Int) = 3) rfl (ev_bind' hu h))))
    by_cases h4 : p = 4
    · subst h4
      have hu := number_any b hb hl i hi ea
      show Res b _ outI ea (((numP 0 (b.drop i)).map fun q => (({ x with f4 := unzig q.1 }), q.2)).bind fun q => piecesP ps q.1 q.2)
      cases hq : numP 0 (b.drop i) with
      | none =>
        rw [hq] at hu
        obtain ⟨at', c, -, g1, g3⟩ := hu
        refine bad at' c i { x with f4 := Go.bits .xor .i64 (wrap64 (0 / 2)) (wrap64 (-(wrap64 (Go.bits .and .u64 0 1)))) } g1 (by omega) (fun {r} h => ?_)
        refine step (fun k => by unfold instL; simp only [code_reader_inst.l0]; rfl) ?_
        rw [hr, hw]
        exact ev_neg (by decide) (ev_neg (by decide) (ev_neg (by decide) (ev_neg (by decide) (ev_pos (c := (4 : Int) = 4) rfl (ev_bind' g3 h)))))
      | some q =>
        obtain ⟨v, r1⟩ := q
        rw [hq] at hu
        obtain ⟨hv, hs, -⟩ := numP_some _ 0 (bytes_drop b hb i) (by omega) _ _ hq
        rw [room0] at hv
        refine good { x with f4 := unzig v } r1 _ hs (fun {r} h => ?_)
        refine step (fun k => by unfold instL; simp only [code_reader_inst.l0]; rfl) ?_
        rw [hr, hw]
        have hu2 : Ev (fun k => code_reader_number.f k b (i : Int) 0 ea) ((v : Int), ((b.length - r1.length : Nat) : Int), 0, ea) := hu
        refine ev_neg (by decide) (ev_neg (by decide) (ev_neg (by decide) (ev_neg (by decide) (ev_pos (c := (4 : Int) = 4) rfl (ev_bind' hu2 ?_)))))
        show Ev (fun k => instL k (pre ++ 4 :: ps) (pre ++ [4]).length b ((b.length - r1.length : Nat) : Int) 0 ea { x with f4 := Go.bits .xor .i64 (wrap64 ((v : Int) / 2)) (wrap64 (-(wrap64 (Go.bits .and .u64 (v : Int) 1)))) }) r
        rw [unzig_bits v hv]
        exact h
    by_cases h5 : p = 5
    · subst h5
      have hu := slots_any b hb hl i hi ea
      show Res b _ outI ea (((slotsP (b.drop i)).map fun q => (({ x with f5 := q.1 }), q.2)).bind fun q => piecesP ps q.1 q.2)
      cases hq : slotsP (b.drop i) with
      | none =>
        rw [hq] at hu
        obtain ⟨v, at', c, e', g1, g2, g3⟩ := hu
        refine bad at' c e' { x with f5 := v } g1 g2 (fun {r} h => ?_)
        refine step (fun k => by unfold instL; simp only [code_reader_inst.l0]; rfl) ?_
        rw [hr, hw]
        exact ev_neg (by decide) (ev_neg (by decide) (ev_neg (by decide) (ev_neg (by decide) (ev_neg (by decide) (ev_pos (c := (5 : Int) = 5) rfl (ev_bind' g3 h))))))
      | some q =>
        obtain ⟨v, r1⟩ := q
        rw [hq] at hu
        obtain ⟨-, hs⟩ := slotsP_some (bytes_drop b hb i) hq
        refine good { x with f5 := v } r1 _ hs (fun {r} h => ?_)
        refine step (fun k => by unfold instL; simp only [code_reader_inst.l0]; rfl) ?_
        rw [hr, hw]
        exact ev_neg (by decide) (ev_neg (by decide) (ev_neg (by decide) (ev_neg (by decide) (ev_neg (by decide) (ev_pos (c := (5 : Int) = 5) rfl (ev_bind' hu h))))))
    by_cases h6 : p = 6
    · subst h6
      have hu := hup 65536 (by omega)
      show Res b _ outI ea (((upP 65536 (b.drop i)).map fun q => (({ x with f6 := ⟨(q.1 : Int), x.f6.f1⟩ }) , q.2)).bind fun q => piecesP ps q.1 q.2)
      cases hq : upP 65536 (b.drop i) with
      | none =>
        rw [hq] at hu
        obtain ⟨v, at', c, e', g1, g2, g3⟩ := hu
        refine bad at' c e' { x with f6 := ⟨(v : Int), x.f6.f1⟩ } g1 g2 (fun {r} h => ?_)
        refine step (fun k => by unfold instL; simp only [code_reader_inst.l0]; rfl) ?_
        rw [hr, hw]
        exact ev_neg (by decide) (ev_neg (by decide) (ev_neg (by decide) (ev_neg (by decide) (ev_neg (by decide) (ev_neg (by decide) (ev_pos (c := (6 : Int) = 6) rfl (ev_bind' g3 h)))))))
      | some q =>
        obtain ⟨v, r1⟩ := q
        rw [hq] at hu
        obtain ⟨hv, hs⟩ := upP_some (bytes_drop b hb i) hq
        refine good { x with f6 := ⟨(v : Int), x.f6.f1⟩ } r1 _ hs (fun {r} h => ?_)
        refine step (fun k => by unfold instL; simp only [code_reader_inst.l0]; rfl) ?_
        rw [hr, hw]
        exact ev_neg (by decide) (ev_neg (by decide) (ev_neg (by decide) (ev_neg (by decide) (ev_neg (by decide) (ev_neg (by decide) (ev_pos (c := (6 : Int) = 6) rfl (ev_bind' hu h)))))))
    by_cases h7 : p = 7
    · subst h7
      have hu := hup 65536 (by omega)
      show Res b _ outI ea (((upP 65536 (b.drop i)).bind fun q => (upP 65536 q.2).map fun t => (({ x with f6 := ⟨(q.1 : Int), (t.1 : Int)⟩ } : S51), t.2)).bind fun q => piecesP ps q.1 q.2)
      cases hq : upP 65536 (b.drop i) with
      | none =>
        rw [hq] at hu
        obtain ⟨v, at', c, e', g1, g2, g3⟩ := hu
        refine bad at' c e' { x with f6 := ⟨(v : Int), 0⟩ } g1 g2 (fun {r} h => ?_)
        refine step (fun k => by unfold instL; simp only [code_reader_inst.l0]; rfl) ?_
        rw [hr, hw]
        exact ev_neg (by decide) (ev_neg (by decide) (ev_neg (by decide) (ev_neg (by decide) (ev_neg (by decide) (ev_neg (by decide) (ev_neg (by decide) (ev_pos (c := (7 : Int) = 7) rfl (ev_bind' g3 (ev_bind' (upto_off b at' c e' 65536 (by omega) g1) h)))))))))
      | some q =>
        obtain ⟨v, r1⟩ := q
        rw [hq] at hu
        obtain ⟨hv, hs⟩ := upP_some (bytes_drop b hb i) hq
        obtain ⟨hs1, hs2⟩ := suf hs
        have hu2 := upto_any b hb hl (b.length - r1.length) hs2 ea 65536 (by omega)
        rw [hs1] at hu2
        show Res b _ outI ea (((upP 65536 r1).map fun t => (({ x with f6 := ⟨(v : Int), (t.1 : Int)⟩ } : S51), t.2)).bind fun q => piecesP ps q.1 q.2)
        cases hq2 : upP 65536 r1 with
        | none =>
          rw [hq2] at hu2
          obtain ⟨v2, at', c, e', g1, g2, g3⟩ := hu2
          refine bad at' c e' { x with f6 := ⟨(v : Int), (v2 : Int)⟩ } g1 g2 (fun {r} h => ?_)
          refine step (fun k => by unfold instL; simp only [code_reader_inst.l0]; rfl) ?_
          rw [hr, hw]
          exact ev_neg (by decide) (ev_neg (by decide) (ev_neg (by decide) (ev_neg (by decide) (ev_neg (by decide) (ev_neg (by decide) (ev_neg (by decide) (ev_pos (c := (7 : Int) = 7) rfl (ev_bind' hu (ev_bind' g3 h)))))))))
        | some q2 =>
          obtain ⟨v2, r2⟩ := q2
          rw [hq2] at hu2
          obtain ⟨-, hs3⟩ := upP_some (hs1 ▸ bytes_drop b hb _) hq2
          refine good { x with f6 := ⟨(v : Int), (v2 : Int)⟩ } r2 (vint v ++ vint v2) (by rw [hs, hs3, List.append_assoc]) (fun {r} h => ?_)
          refine step (fun k => by unfold instL; simp only [code_reader_inst.l0]; rfl) ?_
          rw [hr, hw]
          exact ev_neg (by decide) (ev_neg (by decide) (ev_neg (by decide) (ev_neg (by decide) (ev_neg (by decide) (ev_neg (by decide) (ev_neg (by decide) (ev_pos (c := (7 : Int) = 7) rfl (ev_bind' hu (ev_bind' hu2 h)))))))))
    have e9 : pieceP p x (b.drop i) = some (x, b.drop i) := by unfold pieceP; rw [if_neg h0, if_neg h1, if_neg h2, if_neg h3, if_neg h4, if_neg h5, if_neg h6, if_neg h7]
    show Res b _ outI ea ((pieceP p x (b.drop i)).bind fun q => piecesP ps q.1 q.2)
    rw [e9]
    refine good x (b.drop i) [] (by simp) (fun {r} h => ?_)
    have e8 : b.length - (b.drop i).length = i := by rw [List.length_drop]; omega
    rw [e8] at h
    refine step (fun k => by unfold instL; simp only [code_reader_inst.l0]; rfl) ?_
    rw [hr, hw]
    exact ev_neg h0 (ev_neg h1 (ev_neg h2 (ev_neg h3 (ev_neg h4 (ev_neg h5 (ev_neg h6 (ev_neg h7 h)))))))
end

/-! ### an instruction whole, bodies, and all -/
theorem len_ite {c : Prop} [Decidable c] {x y : List Int} {n : Nat} (ha : x.length ≤ n) (hb : y.length ≤ n) : (if c then x else y).length ≤ n := by split <;> assumption
theorem pieces_short (op : Int) : (piecesL op).length ≤ 4 := by
  unfold piecesL
  repeat (first | decide | refine len_ite (by decide) ?_)
section
variable (b : List Int) (hb : Bytes b) (hl : b.length ≤ 9223372036854775806)
theorem inst_f_off (at_ c ea : Int) (h : c ≠ 0) : ∃ v, Ev (fun k => code_reader_inst.f k b at_ c ea) (outI v at_ c ea) := by
  obtain ⟨v, hv⟩ := inst_off b at_ c ea h [] [] ⟨0, -1, -1, -1, 0, [], ⟨0, 0⟩⟩ (by simp)
  refine ⟨v, ?_⟩
  unfold code_reader_inst.f
  refine ev_bind' (upto_off b at_ c ea 127 (by omega) h) (ev_some (show code_pieces.f 0 = some [] from rfl) (ev_pos rfl ?_))
  refine ev_some (fail_ev2 b at_ c ea 2 at_ h) ?_
  exact Ev.step (fun k => by simp only [code_reader_inst.j0]; rfl) (ev_some (show code_blank.f 0 = some _ from rfl) hv)
include hb hl
theorem inst_any (i : Nat) (hi : i ≤ b.length) (ea : Int) : Res b (fun k => code_reader_inst.f k b (i : Int) 0 ea) outI ea (instP (b.drop i)) := by
  have hu := upto_any b hb hl i hi ea 127 (by omega)
  show Res b _ outI ea ((upP 127 (b.drop i)).bind _)
  cases hp : upP 127 (b.drop i) with
  | none =>
    rw [hp] at hu
    obtain ⟨n, at', c, e', g1, g2, g3⟩ := hu
    by_cases hz : piecesL (n : Int) = []
    · obtain ⟨v, hv⟩ := inst_off b at' c e' g1 [] [] (blankP (n : Int)) (by simp)
      refine ⟨v, at', c, e', g1, g2, ?_⟩
      unfold code_reader_inst.f
      refine ev_bind' g3 (ev_some (show code_pieces.f (n : Int) = some (piecesL (n : Int)) from rfl) ?_)
      rw [hz]
      refine ev_pos rfl (ev_some (fail_ev2 b at' c e' 2 i g1) ?_)
      exact Ev.step (fun k => by simp only [code_reader_inst.j0]; rfl) (ev_some (show code_blank.f (n : Int) = some _ from rfl) hv)
    · obtain ⟨v, hv⟩ := inst_off b at' c e' g1 (piecesL (n : Int)) [] (blankP (n : Int)) (by simp; have := pieces_short (n : Int); omega)
      refine ⟨v, at', c, e', g1, g2, ?_⟩
      unfold code_reader_inst.f
      refine ev_bind' g3 (ev_some (show code_pieces.f (n : Int) = some (piecesL (n : Int)) from rfl) (ev_neg (fun h => hz (List.eq_nil_of_length_eq_zero h)) ?_))
      exact Ev.step (fun k => by simp only [code_reader_inst.j0]; rfl) (ev_some (show code_blank.f (n : Int) = some _ from rfl) hv)
  | some p =>
    obtain ⟨n, r⟩ := p
    rw [hp] at hu
    obtain ⟨-, hs⟩ := upP_some (bytes_drop b hb i) hp
    obtain ⟨hs1, hs2⟩ := suf hs
    show Res b _ outI ea (if piecesL (n : Int) = [] then none else piecesP (piecesL (n : Int)) (blankP (n : Int)) r)
    by_cases hz : piecesL (n : Int) = []
    · rw [if_pos hz]
      obtain ⟨v, hv⟩ := inst_off b ((b.length - r.length : Nat) : Int) 2 i (by decide) [] [] (blankP (n : Int)) (by simp)
      refine ⟨v, ((b.length - r.length : Nat) : Int), 2, i, by decide, by omega, ?_⟩
      unfold code_reader_inst.f
      refine ev_bind' hu (ev_some (show code_pieces.f (n : Int) = some (piecesL (n : Int)) from rfl) ?_)
      rw [hz]
      refine ev_pos rfl (ev_some (fail_ev b _ 0 ea 2 i rfl) ?_)
      exact Ev.step (fun k => by simp only [code_reader_inst.j0]; rfl) (ev_some (show code_blank.f (n : Int) = some _ from rfl) hv)
    · rw [if_neg hz]
      have h := inst_on b hb hl ea (piecesL (n : Int)) [] (blankP (n : Int)) (b.length - r.length) hs2 (by simp; have := pieces_short (n : Int); omega)
      rw [hs1] at h
      have hgo : ∀ {q}, Ev (fun k => instL k ([] ++ piecesL (n : Int)) ([] : List Int).length b ((b.length - r.length : Nat) : Int) 0 ea (blankP (n : Int))) q → Ev (fun k => code_reader_inst.f k b (i : Int) 0 ea) q := by
        intro q hq
        unfold code_reader_inst.f
        refine ev_bind' hu (ev_some (show code_pieces.f (n : Int) = some (piecesL (n : Int)) from rfl) (ev_neg (fun h => hz (List.eq_nil_of_length_eq_zero h)) ?_))
        exact Ev.step (fun k => by simp only [code_reader_inst.j0]; rfl) (ev_some (show code_blank.f (n : Int) = some _ from rfl) hq)
      cases hq : piecesP (piecesL (n : Int)) (blankP (n : Int)) r with
      | none =>
        rw [hq] at h
        obtain ⟨v, at', c, e', g1, g2, g3⟩ := h
        exact ⟨v, at', c, e', g1, g2, hgo g3⟩
      | some q =>
        obtain ⟨v, r2⟩ := q
        rw [hq] at h
        exact hgo h
end
/-- What code.Read hands back in the end. -/
def ReadRes (b : List Int) (g : Nat → Option (List S47 × Int × Int)) : Option (List S47) → Prop
  | some l => Ev g (if (chk l).1 = 0 then (l, 0, 0) else ([], (chk l).1, wrap64 ((b.length : Int) + (chk l).2)))
  | none => ∃ c e : Int, c ≠ 0 ∧ 0 ≤ e ∧ Ev g ([], c, e)
section
variable (b : List Int) (hb : Bytes b) (hl : b.length ≤ 9223372036854775806)
theorem read_off (x5 : List S47) (n at_ c ea : Int) (h : c ≠ 0) : Ev (fun k => code_Read.l0 k b x5 n b at_ c ea) ([], c, ea) := by
  have h4 : Ev (fun k => code_Read.j4 k b x5 b at_ c ea) ([], c, ea) := Ev.step (fun k => by simp only [code_Read.j4]; rfl) (ev_neg h (Ev.now _))
  have h3 : Ev (fun k => code_Read.j3 k b x5 false b at_ c ea) ([], c, ea) := Ev.step (fun k => by simp only [code_Read.j3]; rfl) (ev_neg (by simp) h4)
  have h1 : Ev (fun k => code_Read.j1 k b x5 n false b at_ c ea) ([], c, ea) := Ev.step (fun k => by simp only [code_Read.j1]; rfl) (ev_neg (by simp) (ev_neg h h3))
  refine Ev.step (fun k => by simp only [code_Read.l0]; rfl) ?_
  by_cases hn : n > 0
  · have e : (c == 0) = false := beq_eq_false_iff_ne.mpr h
    refine ev_pos hn ?_
    rw [e]; exact h1
  · exact ev_neg hn h1
theorem read_l1_off (x5 : List S47) (hx : x5.length ≤ 100) (n k at_ c ea : Int) (h : c ≠ 0) (ps : List Int) (sz : Int) (code : List S51) : Ev (fun q => code_Read.l1 q b x5 n k b at_ c ea ps sz code) ([], c, ea) := by
  refine Ev.step (fun q => by simp only [code_Read.l1]; rfl) ?_
  by_cases hk : k > 0
  · exact ev_pos hk (ev_neg h (ev_pos (c := x5.length < 2513169434916) (by omega) (read_off b _ _ _ _ _ h)))
  · exact ev_neg hk (ev_pos (c := x5.length < 2513169434916) (by omega) (read_off b _ _ _ _ _ h))
include hb hl
/-- The instructions of one body, and what follows them. -/
theorem read_l1 (x5 : List S47) (hx : x5.length ≤ 100) (n : Int) (ps : List Int) (sz : Int) (ea : Int) (R : Option (List S47)) :
    ∀ (m i : Nat) (code : List S51), i ≤ b.length → code.length + m ≤ 65536 →
      (match instsP m (b.drop i) with
        | some (cs, r) => (ReadRes b (fun q => code_Read.l0 q b (x5 ++ [⟨ps, sz, code ++ cs⟩]) (wrap64 (n - 1)) b ((b.length - r.length : Nat) : Int) 0 ea) R → ReadRes b (fun q => code_Read.l1 q b x5 n (m : Int) b (i : Int) 0 ea ps sz code) R)
        | none => ReadRes b (fun q => code_Read.l1 q b x5 n (m : Int) b (i : Int) 0 ea ps sz code) none) := by
  intro m
  induction m with
  | zero =>
    intro i code hi hm
    show ReadRes b (fun q => code_Read.l0 q b (x5 ++ [⟨ps, sz, code ++ []⟩]) (wrap64 (n - 1)) b ((b.length - (b.drop i).length : Nat) : Int) 0 ea) R → _
    have e8 : b.length - (b.drop i).length = i := by rw [List.length_drop]; omega
    rw [e8, List.append_nil]
    have hgo : ∀ {q}, Ev (fun q => code_Read.l0 q b (x5 ++ [⟨ps, sz, code⟩]) (wrap64 (n - 1)) b (i : Int) 0 ea) q → Ev (fun q => code_Read.l1 q b x5 n ((0 : Nat) : Int) b (i : Int) 0 ea ps sz code) q :=
      fun h => Ev.step (fun q => by simp only [code_Read.l1]; rfl) (ev_neg (by omega) (ev_pos (c := x5.length < 2513169434916) (by omega) h))
    intro h
    cases R with
    | none => obtain ⟨c, e, g1, g2, g3⟩ := h; exact ⟨c, e, g1, g2, hgo g3⟩
    | some l => exact hgo h
  | succ m ih =>
    intro i code hi hm
    have hu := inst_any b hb hl i hi ea
    have hw : wrap64 (((m + 1 : Nat) : Int) - 1) = (m : Int) := by rw [w64 (by omega) (by omega)]; omega
    have hstep : ∀ {v : S51} {at' c e' : Int} {q}, Ev (fun k => code_reader_inst.f k b (i : Int) 0 ea) (outI v at' c e') → Ev (fun q => code_Read.l1 q b x5 n (m : Int) b at' c e' ps sz (code ++ [v])) q → Ev (fun q => code_Read.l1 q b x5 n ((m + 1 : Nat) : Int) b (i : Int) 0 ea ps sz code) q := by
      intro v at' c e' q h1 h2
      refine Ev.step (fun q => by simp only [code_Read.l1]; rfl) (ev_pos (by omega) (ev_pos (c := (0 : Int) = 0) rfl (ev_bind' h1 (ev_pos (c := code.length < 1759218604441) (by omega) ?_))))
      rw [hw]
      exact h2
    have e0 : instsP (m + 1) (b.drop i) = (instP (b.drop i)).bind fun p => (instsP m p.2).bind fun q => some (p.1 :: q.1, q.2) := rfl
    rw [e0]
    cases hp : instP (b.drop i) with
    | none =>
      rw [hp] at hu
      obtain ⟨v, at', c, e', g1, g2, g3⟩ := hu
      exact ⟨c, e', g1, g2, hstep g3 (read_l1_off b x5 hx _ _ _ _ _ g1 _ _ _)⟩
    | some p =>
      obtain ⟨v, r⟩ := p
      rw [hp] at hu
      have hs := instP_some (bytes_drop b hb i) hp
      obtain ⟨hs1, hs2⟩ := suf hs
      have hrec := ih (b.length - r.length) (code ++ [v]) hs2 (by rw [List.length_append, List.length_singleton]; omega)
      rw [hs1] at hrec
      show (match (instsP m r).bind fun q => some (v :: q.1, q.2) with | some (cs, r) => _ | none => _)
      cases hq : instsP m r with
      | none =>
        rw [hq] at hrec
        obtain ⟨c, e', g1, g2, g3⟩ := hrec
        exact ⟨c, e', g1, g2, hstep hu g3⟩
      | some q =>
        obtain ⟨cs, r2⟩ := q
        rw [hq] at hrec
        intro h
        have e9 : code ++ v :: cs = (code ++ [v]) ++ cs := by simp
        rw [e9] at h
        have h2 := hrec h
        cases R with
        | none => obtain ⟨c, e, g1, g2, g3⟩ := h2; exact ⟨c, e, g1, g2, hstep hu g3⟩
        | some l => exact hstep hu h2
end
theorem instP_args {s : List Int} (hs : Bytes s) {x : S51} {r : List Int} (h : instP s = some (x, r)) : x.f5.length ≤ 8 := by
  obtain ⟨⟨op, s1⟩, h1, h2⟩ := Option.bind_eq_some_iff.mp h
  obtain ⟨-, rfl⟩ := upP_some hs h1
  by_cases hp : piecesL (op : Int) = []
  · rw [if_pos hp] at h2; cases h2
  · rw [if_neg hp] at h2
    have key : ∀ (ps : List Int) (y : S51) (s : List Int), Bytes s → y.f5.length ≤ 8 → ∀ x r, piecesP ps y s = some (x, r) → x.f5.length ≤ 8 := by
      intro ps
      induction ps with
      | nil => intro y s _ hy x r h; obtain ⟨rfl, rfl⟩ := Prod.mk.inj (Option.some.inj h); exact hy
      | cons p ps ih =>
        intro y s hs hy x r h
        obtain ⟨⟨x1, s1⟩, h1, h2⟩ := Option.bind_eq_some_iff.mp h
        obtain ⟨g1, rfl, -, -⟩ := pieceP_some y p s hs x1 s1 h1
        refine ih x1 s1 (bytes_tail hs) ?_ x r h2
        by_cases h5 : p = 5
        · subst h5; unfold okR at g1; simp at g1; exact g1.1
        · have : x1.f5 = y.f5 := by
            unfold pieceP at h1
            repeat' split at h1
            all_goals first
              | (exfalso; exact h5 (by assumption))
              | (obtain ⟨_, _, h3⟩ := Option.map_eq_some_iff.mp h1; rw [← (Prod.mk.inj h3).1])
              | (obtain ⟨_, _, h3⟩ := Option.bind_eq_some_iff.mp h1; obtain ⟨_, _, h4⟩ := Option.map_eq_some_iff.mp h3; rw [← (Prod.mk.inj h4).1])
              | (rw [← (Prod.mk.inj (Option.some.inj h1)).1])
          rw [this]; exact hy
    exact key _ _ _ (bytes_tail hs) (by simp [blankP]) _ _ h2
theorem instsP_args : ∀ (n : Nat) (s : List Int), Bytes s → ∀ l r, instsP n s = some (l, r) → ∀ x ∈ l, x.f5.length ≤ 8 := by
  intro n
  induction n with
  | zero => intro s hs l r h; obtain ⟨rfl, rfl⟩ := Prod.mk.inj (Option.some.inj h); simp
  | succ n ih =>
    intro s hs l r h
    obtain ⟨⟨x, s1⟩, h1, h2⟩ := Option.bind_eq_some_iff.mp h
    obtain ⟨⟨l1, r1⟩, h3, h4⟩ := Option.bind_eq_some_iff.mp h2
    obtain ⟨rfl, rfl⟩ := Prod.mk.inj (Option.some.inj h4)
    have ha := instP_args hs h1
    obtain rfl := instP_some hs h1
    intro y hy
    rcases List.mem_cons.1 hy with rfl | hy
    · exact ha
    · exact ih s1 (bytes_tail hs) l1 r1 h3 y hy
theorem fits_of (s : List Int) (hs : Bytes s) (hl : s.length ≤ 9223372036854775806) (f : S47) (r : List Int) (h : bodyP s = some (f, r)) : Fit f := by
  obtain ⟨⟨ps, s1⟩, h1, h⟩ := Option.bind_eq_some_iff.mp h
  obtain ⟨⟨sz, s2⟩, h2, h⟩ := Option.bind_eq_some_iff.mp h
  obtain ⟨⟨k, s3⟩, h3, h⟩ := Option.bind_eq_some_iff.mp h
  obtain ⟨⟨code, s4⟩, h4, h5⟩ := Option.bind_eq_some_iff.mp h
  obtain ⟨rfl, rfl⟩ := Prod.mk.inj (Option.some.inj h5)
  obtain ⟨k1, e1⟩ := slotsP_some hs h1
  have b1 : Bytes s1 := bytes_tail (e1 ▸ hs)
  obtain ⟨-, e2⟩ := upP_some b1 h2
  have b2 : Bytes s2 := bytes_tail (e2 ▸ b1)
  obtain ⟨hk, e3⟩ := upP_some b2 h3
  have b3 : Bytes s3 := bytes_tail (e3 ▸ b2)
  obtain ⟨g1, e4⟩ := instsP_some _ s3 b3 _ _ h4
  exact ⟨by have := k1.1; show ps.length ≤ _; omega, by show code.length ≤ _; omega, fun x hx => by have := instsP_args _ s3 b3 _ _ h4 x hx; omega⟩
def readP (b : List Int) : Option (List S47) := (allP b).bind fun p => if p.2 = [] then some p.1 else none
section
variable (b : List Int) (hb : Bytes b) (hl : b.length ≤ 9223372036854775806)
include hb hl
theorem read_l0 (ea : Int) : ∀ (n i : Nat) (x5 : List S47), i ≤ b.length → x5.length + n ≤ 32 → (∀ f ∈ x5, Fit f) →
    ReadRes b (fun q => code_Read.l0 q b x5 (n : Int) b (i : Int) 0 ea) ((bodiesP n (b.drop i)).bind fun p => if p.2 = [] then some (x5 ++ p.1) else none) := by
  intro n
  induction n with
  | zero =>
    intro i x5 hi hn hfit
    show ReadRes b _ (if b.drop i = [] then some (x5 ++ []) else none)
    by_cases hd : b.drop i = []
    · have hib : i = b.length := by
        have := congrArg List.length hd
        rw [List.length_drop, List.length_nil] at this
        omega
      rw [if_pos hd, List.append_nil]
      show Ev _ _
      refine Ev.step (fun k => by simp only [code_Read.l0]; rfl) (ev_neg (by omega) (Ev.step (fun k => by simp only [code_Read.j1]; rfl) (ev_neg (by simp) (ev_pos (c := (0 : Int) = 0) rfl ?_))))
      rw [show decide ((i : Int) < (b.length : Int)) = false from decide_eq_false (by omega)]
      refine Ev.step (fun k => by simp only [code_Read.j3]; rfl) (ev_neg (by simp) (Ev.step (fun k => by simp only [code_Read.j4]; rfl) (ev_pos (c := (0 : Int) = 0) rfl (ev_bind' (prog_chk x5 hfit) ?_))))
      by_cases h0 : (chk x5).1 = 0
      · simp only [if_pos h0]; exact Ev.now _
      · simp only [if_neg h0]; exact Ev.now _
    · have hib : i < b.length := by
        by_cases h : i < b.length
        · exact h
        · exact absurd (List.drop_eq_nil_of_le (by omega)) hd
      rw [if_neg hd]
      refine ⟨1, i, by decide, by omega, ?_⟩
      refine Ev.step (fun k => by simp only [code_Read.l0]; rfl) (ev_neg (by omega) (Ev.step (fun k => by simp only [code_Read.j1]; rfl) (ev_neg (by simp) (ev_pos (c := (0 : Int) = 0) rfl ?_))))
      rw [show decide ((i : Int) < (b.length : Int)) = true from decide_eq_true (by omega)]
      exact Ev.step (fun k => by simp only [code_Read.j3]; rfl) (ev_pos (c := true = true) rfl (ev_some (fail_ev b _ 0 ea 1 i rfl) (Ev.step (fun k => by simp only [code_Read.j4]; rfl) (ev_neg (by decide) (Ev.now _)))))
  | succ n ih =>
    intro i x5 hi hn hfit
    have hw : wrap64 (((n + 1 : Nat) : Int) - 1) = (n : Int) := by rw [w64 (by omega) (by omega)]; omega
    have hs := slots_any b hb hl i hi ea
    -- the way into a body
    have hin : ∀ {q : Option (List S47)} {ps : List Int} {a1 c1 e1 : Int} {sz : Nat} {a2 c2 e2 : Int} {m : Nat} {a3 c3 e3 : Int}, Ev (fun k => code_reader_slots.f k b (i : Int) 0 ea) (outS [] ps a1 c1 e1) → Ev (fun k => code_reader_upto.f k b a1 c1 e1 ((4096 : Nat) : Int)) (outN sz a2 c2 e2) → Ev (fun k => code_reader_upto.f k b a2 c2 e2 ((65536 : Nat) : Int)) (outN m a3 c3 e3) →
        ReadRes b (fun k => code_Read.l1 k b x5 ((n + 1 : Nat) : Int) (m : Int) b a3 c3 e3 ps (sz : Int) []) q → ReadRes b (fun k => code_Read.l0 k b x5 ((n + 1 : Nat) : Int) b (i : Int) 0 ea) q := by
      intro q ps a1 c1 e1 sz a2 c2 e2 m a3 c3 e3 g1 g2 g3 h
      have hgo : ∀ {z}, Ev (fun k => code_Read.l1 k b x5 ((n + 1 : Nat) : Int) (m : Int) b a3 c3 e3 ps (sz : Int) []) z → Ev (fun k => code_Read.l0 k b x5 ((n + 1 : Nat) : Int) b (i : Int) 0 ea) z := by
        intro z hz
        refine Ev.step (fun k => by simp only [code_Read.l0]; rfl) (ev_pos (by omega) ?_)
        exact Ev.step (fun k => by simp only [code_Read.j1]; rfl) (ev_pos (by simp) (ev_bind' g1 (ev_bind' g2 (ev_bind' g3 hz))))
      cases q with
      | none => obtain ⟨c, e, k1, k2, k3⟩ := h; exact ⟨c, e, k1, k2, hgo k3⟩
      | some l => exact hgo h
    have hoffn : ∀ {a c e : Int} {top : Nat}, top < 9223372036854775808 → c ≠ 0 → Ev (fun k => code_reader_upto.f k b a c e (top : Int)) (outN 0 a c e) := fun ht h => upto_off b _ _ _ _ ht h
    show ReadRes b _ (((bodyP (b.drop i)).bind fun p => (bodiesP n p.2).bind fun q => some (p.1 :: q.1, q.2)).bind fun p => if p.2 = [] then some (x5 ++ p.1) else none)
    unfold bodyP
    cases h1 : slotsP (b.drop i) with
    | none =>
      rw [h1] at hs
      obtain ⟨v, a1, c, e', g1, g2, g3⟩ := hs
      exact hin g3 (hoffn (by omega) g1) (hoffn (by omega) g1) ⟨c, e', g1, g2, read_l1_off b x5 (by omega) _ _ _ _ _ g1 _ _ _⟩
    | some p1 =>
      obtain ⟨ps, r1⟩ := p1
      rw [h1] at hs
      obtain ⟨-, e1⟩ := slotsP_some (bytes_drop b hb i) h1
      obtain ⟨d1, d2⟩ := suf e1
      have hu := upto_any b hb hl (b.length - r1.length) d2 ea 4096 (by omega)
      rw [d1] at hu
      show ReadRes b _ ((((upP 4096 r1).bind fun b_ => (upP 65536 b_.2).bind fun c => (instsP c.1 c.2).bind fun d => some (⟨ps, (b_.1 : Int), d.1⟩, d.2)).bind fun p => (bodiesP n p.2).bind fun q => some (p.1 :: q.1, q.2)).bind fun p => if p.2 = [] then some (x5 ++ p.1) else none)
      have br1 : Bytes r1 := d1 ▸ bytes_drop b hb _
      cases h2 : upP 4096 r1 with
      | none =>
        rw [h2] at hu
        obtain ⟨v, a1, c, e', g1, g2, g3⟩ := hu
        exact hin hs g3 (hoffn (by omega) g1) ⟨c, e', g1, g2, read_l1_off b x5 (by omega) _ _ _ _ _ g1 _ _ _⟩
      | some p2 =>
        obtain ⟨sz, r2⟩ := p2
        rw [h2] at hu
        obtain ⟨-, e2⟩ := upP_some br1 h2
        have e2' : b.drop (b.length - r1.length) = vint sz ++ r2 := by rw [d1]; exact e2
        obtain ⟨d3, d4⟩ := suf e2'
        have hu2 := upto_any b hb hl (b.length - r2.length) d4 ea 65536 (by omega)
        rw [d3] at hu2
        show ReadRes b _ ((((upP 65536 r2).bind fun c => (instsP c.1 c.2).bind fun d => some (⟨ps, (sz : Int), d.1⟩, d.2)).bind fun p => (bodiesP n p.2).bind fun q => some (p.1 :: q.1, q.2)).bind fun p => if p.2 = [] then some (x5 ++ p.1) else none)
        have br2 : Bytes r2 := d3 ▸ bytes_drop b hb _
        cases h3 : upP 65536 r2 with
        | none =>
          rw [h3] at hu2
          obtain ⟨v, a1, c, e', g1, g2, g3⟩ := hu2
          exact hin hs hu g3 ⟨c, e', g1, g2, read_l1_off b x5 (by omega) _ _ _ _ _ g1 _ _ _⟩
        | some p3 =>
          obtain ⟨m, r3⟩ := p3
          rw [h3] at hu2
          obtain ⟨hm, e3⟩ := upP_some br2 h3
          have e3' : b.drop (b.length - r2.length) = vint m ++ r3 := by rw [d3]; exact e3
          obtain ⟨d5, d6⟩ := suf e3'
          refine hin hs hu hu2 ?_
          show ReadRes b _ ((((instsP m r3).bind fun d => some ((⟨ps, (sz : Int), d.1⟩ : S47), d.2)).bind fun p => (bodiesP n p.2).bind fun q => some (p.1 :: q.1, q.2)).bind fun p => if p.2 = [] then some (x5 ++ p.1) else none)
          have br3 : Bytes r3 := d5 ▸ bytes_drop b hb _
          have hl1 := fun R => read_l1 b hb hl x5 (by omega) ((n + 1 : Nat) : Int) ps (sz : Int) ea R m (b.length - r3.length) [] d6 (by simp; omega)
          rw [d5] at hl1
          cases h4 : instsP m r3 with
          | none =>
            rw [h4] at hl1
            exact hl1 none
          | some p4 =>
            obtain ⟨cs, r4⟩ := p4
            rw [h4] at hl1
            obtain ⟨hlen, e4⟩ := instsP_some m r3 br3 cs r4 h4
            have e4' : b.drop (b.length - r3.length) = cs.flatMap encI ++ r4 := by rw [d5]; exact e4
            obtain ⟨d7, d8⟩ := suf e4'
            refine hl1 _ ?_
            rw [hw]
            show ReadRes b _ (((bodiesP n r4).bind fun q => some ((⟨ps, (sz : Int), cs⟩ : S47) :: q.1, q.2)).bind fun p => if p.2 = [] then some (x5 ++ p.1) else none)
            have hfit2 : Fit (⟨ps, (sz : Int), cs⟩ : S47) := fits_of (b.drop i) (bytes_drop b hb i) (by rw [List.length_drop]; omega) _ r4 (by unfold bodyP; rw [h1]; show ((upP 4096 r1).bind _) = _; rw [h2]; show ((upP 65536 r2).bind _) = _; rw [h3]; show ((instsP m r3).bind _) = _; rw [h4]; rfl)
            have hrec := ih (b.length - r4.length) (x5 ++ [⟨ps, (sz : Int), cs⟩]) d8 (by rw [List.length_append, List.length_singleton]; omega) (fun f hf => by
              rcases List.mem_append.1 hf with hf | hf
              · exact hfit f hf
              · rw [List.mem_singleton.1 hf]; exact hfit2)
            rw [d7] at hrec
            have e9 : ∀ l : List S47, x5 ++ [⟨ps, (sz : Int), cs⟩] ++ l = x5 ++ ⟨ps, (sz : Int), cs⟩ :: l := fun l => by simp
            cases h5 : bodiesP n r4 with
            | none => rw [h5] at hrec; exact hrec
            | some p5 =>
              obtain ⟨l5, r5⟩ := p5
              rw [h5] at hrec
              show ReadRes b _ (if r5 = [] then some (x5 ++ ⟨ps, (sz : Int), cs⟩ :: l5) else none)
              have hrec2 : ReadRes b _ (if r5 = [] then some (x5 ++ [⟨ps, (sz : Int), cs⟩] ++ l5) else none) := hrec
              rw [e9] at hrec2
              exact hrec2
theorem read_any : ReadRes b (fun k => code_Read.f k b) (readP b) := by
  have hu := upto_any b hb hl 0 (by omega) 0 32 (by omega)
  rw [List.drop_zero] at hu
  unfold readP allP
  have hgo : ∀ {q : Option (List S47)} {n : Nat} {a c e : Int}, Ev (fun k => code_reader_upto.f k b ((0 : Nat) : Int) 0 0 ((32 : Nat) : Int)) (outN n a c e) → ReadRes b (fun k => code_Read.l0 k b [] (n : Int) b a c e) q → ReadRes b (fun k => code_Read.f k b) q := by
    intro q n a c e g h
    have hgo2 : ∀ {z}, Ev (fun k => code_Read.l0 k b [] (n : Int) b a c e) z → Ev (fun k => code_Read.f k b) z := by
      intro z hz
      unfold code_Read.f
      exact ev_bind' g hz
    cases q with
    | none => obtain ⟨c, e, k1, k2, k3⟩ := h; exact ⟨c, e, k1, k2, hgo2 k3⟩
    | some l => exact hgo2 h
  cases h1 : upP 32 b with
  | none =>
    rw [h1] at hu
    obtain ⟨n, a, c, e, g1, g2, g3⟩ := hu
    exact hgo g3 ⟨c, e, g1, g2, read_off b _ _ _ _ _ g1⟩
  | some p =>
    obtain ⟨n, r⟩ := p
    rw [h1] at hu
    obtain ⟨hn, e1⟩ := upP_some hb h1
    obtain ⟨d1, d2⟩ := suf (show b.drop 0 = vint n ++ r by rw [List.drop_zero]; exact e1)
    refine hgo hu ?_
    have h := read_l0 b hb hl 0 n (b.length - r.length) [] d2 (by rw [List.length_nil]; omega) (by simp)
    rw [d1] at h
    exact h
end
end Go.Proofs.Ytpjehipemljkpaa.CodeLaw
