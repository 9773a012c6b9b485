import Derived.Test.YtkgjbdbhpohkiaaMr30
import Derived.Test.YtkgjbdbhpohkiaaMr17
import Derived.Test.YtkgjbdbhpohkiaaMr28
import Derived.Test.YtkgjbdbhpohkiaaMr9
-- from YtkgjbdbhpohkiaaLiReadB
section
namespace Go.Proofs.Ytkgjbdbhpohkiaa.LiReadB
open Go.RowKit Go.Proofs.YtkgjbdbhpohkiaaW.PrintWords Go.Proofs.YtkgjbdbhpohkiaaW.PrintLast Go.Proofs.YtkgjbdbhpohkiaaW.PrintMore Go.Proofs.Ytkgjbdbhpohkiaa.Str Go.Proofs.Ytkgjbdbhpohkiaa.Dig Go.Proofs.Ytkgjbdbhpohkiaa.DigLaw Go.Proofs.Ytkgjbdbhpohkiaa.PLi
set_option linter.unusedSimpArgs false
set_option linter.unusedVariables false
theorem ev_bind'' {α β : Type} {g : Nat → Option α} {f : Nat → α → Option β} {a : α} {r : β} (h : Ev g a) (k : Ev (fun n => f n a) r) : Ev (fun n => (g n).bind (f n)) r := Ev.bind h k
theorem fin_bounds (low : Bool) (V : Nat) : -9223372036854775808 ≤ (fin low V).1 ∧ (fin low V).1 ≤ 9223372036854775807 := by
 unfold fin
 split
 ·decide
 ·rename_i h
  cases low
  ·rw [if_neg (by decide)]
   have : ¬ (9223372036854775808 < V) := fun e => h (.inl e)
   have : ¬ V = 9223372036854775808 := fun e => h (.inr ⟨rfl, e⟩)
   constructor
   ·show (-9223372036854775808 : Int) ≤ (V : Int); omega
   ·show (V : Int) ≤ 9223372036854775807; omega
  ·rw [if_pos rfl]
   have : ¬ (9223372036854775808 < V) := fun e => h (.inl e)
   constructor
   ·show (-9223372036854775808 : Int) ≤ -(V : Int); omega
   ·show -(V : Int) ≤ 9223372036854775807; omega
theorem parseT_bounds (low : Bool) (t : List UInt8) : -9223372036854775808 ≤ (parseT low t).1 ∧ (parseT low t).1 ≤ 9223372036854775807 := by
 unfold parseT
 split
 ·decide
 ·unfold finish
  split
  ·exact fin_bounds _ _
  ·decide
theorem parseL_bounds (l : List UInt8) : -9223372036854775808 ≤ (parseL l).1 ∧ (parseL l).1 ≤ 9223372036854775807 := by
 unfold parseL
 split
 ·exact parseT_bounds _ _
 ·exact parseT_bounds _ _
structure Toks (tl : List Tok) : Prop where
 len : tl.length ≤ 100000
 at_ : ∀ t ∈ tl, 0 ≤ t.f1
 sz : ∀ t ∈ tl, t.f0.size ≤ 100000
structure GS (tl : List Tok) (d s1 s3 s4 : Int) : Prop where
 lo : 0 ≤ s1
 hi : s1 ≤ tl.length + d
 ok : s3 = 0 → s1 ≤ tl.length
 e : 0 ≤ s4
theorem GS.up {tl : List Tok} {d d' s1 s3 s4 : Int} (h : GS tl d s1 s3 s4) (hd : d ≤ d') : GS tl d' s1 s3 s4 := ⟨h.lo, by have := h.hi; omega, h.ok, h.e⟩
theorem GS.zero {tl : List Tok} {d s1 s3 s4 : Int} (h : GS tl d s1 s3 s4) (h0 : s3 = 0) : GS tl 0 s1 s3 s4 := ⟨h.lo, by have := h.ok h0; omega, h.ok, h.e⟩
theorem tok_at (tl : List Tok) (s1 : Int) (h0 : 0 ≤ s1) (h1 : s1 < tl.length) : rd_T84 tl s1 ∈ tl := by
 obtain ⟨n, rfl⟩ := Int.eq_ofNat_of_zero_le h0
 have hn : n < tl.length := by omega
 unfold rd_T84
 rw [Int.toNat_natCast, List.getD_eq_getElem?_getD, List.getElem?_eq_getElem hn]
 exact List.getElem_mem hn
def pkB (tl : List Tok) (s1 s3 : Int) : ByteArray := if s3 = 0 ∧ s1 < (tl.length : Int) then (rd_T84 tl s1).f0 else (⟨#[]⟩ : ByteArray)
theorem peek_some (tl : List Tok) (s1 s2 s3 s4 : Int) (h0 : 0 ≤ s1) : listing_reader_peek.f tl s1 s2 s3 s4 = some (pkB tl s1 s3, s1, s2, s3, s4) := by
 unfold listing_reader_peek.f pkB
 by_cases h3 : s3 = 0
 ·rw [if_pos h3]
  by_cases h1 : s1 < (tl.length : Int)
  ·rw [if_neg (by omega), if_pos h0, if_pos h1, if_pos ⟨h3, h1⟩]
  ·rw [if_pos (by omega), if_neg (fun h => h1 h.2)]
 ·rw [if_neg h3, if_neg (fun h => h3 h.1)]
theorem pk_pos {tl : List Tok} {s1 s3 : Int} (h : pkB tl s1 s3 ≠ (⟨#[]⟩ : ByteArray)) : s3 = 0 ∧ s1 < (tl.length : Int) := by
 unfold pkB at h
 by_cases hc : s3 = 0 ∧ s1 < (tl.length : Int)
 ·exact hc
 ·rw [if_neg hc] at h
  exact absurd rfl h
theorem pk_sz {tl : List Tok} (hT : Toks tl) {s1 s3 : Int} (h0 : 0 ≤ s1) : (pkB tl s1 s3).size ≤ 100000 := by
 unfold pkB
 by_cases hc : s3 = 0 ∧ s1 < (tl.length : Int)
 ·rw [if_pos hc]
  exact hT.sz _ (tok_at tl s1 h0 hc.2)
 ·rw [if_neg hc]
  decide
def flA (tl : List Tok) (s1 s2 s3 s4 : Int) : Int := if s3 = 0 then (if s1 < (tl.length : Int) then (rd_T84 tl s1).f1 else s2) else s4
def flC (s3 c : Int) : Int := if s3 = 0 then c else s3
theorem fail_some (tl : List Tok) (s1 s2 s3 s4 c : Int) (h0 : 0 ≤ s1) : listing_reader_fail.f tl s1 s2 s3 s4 c = some (s1, s2, flC s3 c, flA tl s1 s2 s3 s4) := by
 unfold listing_reader_fail.f flA flC
 by_cases h3 : s3 = 0
 ·rw [if_pos h3, if_pos h3, if_pos h3]
  by_cases h1 : s1 < (tl.length : Int)
  ·rw [if_pos h1, if_pos h0, if_pos h1]
  ·rw [if_neg h1, if_neg h1]
 ·rw [if_neg h3, if_neg h3, if_neg h3]
theorem flA_pos {tl : List Tok} (hT : Toks tl) {s1 s2 s3 s4 : Int} (h0 : 0 ≤ s1) (h2 : 0 ≤ s2) (h4 : 0 ≤ s4) : 0 ≤ flA tl s1 s2 s3 s4 := by
 unfold flA
 by_cases h3 : s3 = 0
 ·rw [if_pos h3]
  by_cases h1 : s1 < (tl.length : Int)
  ·rw [if_pos h1]
   exact hT.at_ _ (tok_at tl s1 h0 h1)
  ·rw [if_neg h1]
   exact h2
 ·rw [if_neg h3]
  exact h4
theorem flC_ne {s3 c : Int} (hc : c ≠ 0) : flC s3 c ≠ 0 := by
 unfold flC
 by_cases h3 : s3 = 0
 ·rw [if_pos h3]; exact hc
 ·rw [if_neg h3]; exact h3
theorem GS.fail {tl : List Tok} (hT : Toks tl) {d s1 s2 s3 s4 c : Int} (h : GS tl d s1 s3 s4) (h2 : 0 ≤ s2) (hc : c ≠ 0) : GS tl d s1 (flC s3 c) (flA tl s1 s2 s3 s4) :=
 ⟨h.lo, h.hi, fun e => absurd e (flC_ne hc), flA_pos hT h.lo h2 h.e⟩
theorem GS.next {tl : List Tok} {d s1 s3 s4 : Int} (h : GS tl d s1 s3 s4) (hn : s3 = 0 → s1 < (tl.length : Int)) : GS tl (d + 1) (s1 + 1) s3 s4 :=
 ⟨by have := h.lo; omega, by have := h.hi; omega, fun e => by have := hn e; omega, h.e⟩
theorem GS.w {tl : List Tok} (hT : Toks tl) {d s1 s3 s4 : Int} (h : GS tl d s1 s3 s4) (hd : d ≤ 1000) : wrap64 (s1 + 1) = s1 + 1 := w64 (by have := h.lo; omega) (by have := h.hi; have := hT.len; omega)
section
variable {tl : List Tok} (hT : Toks tl) {d s1 s2 s3 s4 : Int} (g : GS tl d s1 s3 s4) (h2 : 0 ≤ s2) (hd : d ≤ 900)
include hT g h2 hd
theorem want_any (w : ByteArray) (hw : w ≠ (⟨#[]⟩ : ByteArray)) : ∃ r1 r3 r4, listing_reader_want.f tl s1 s2 s3 s4 w = some (r1, s2, r3, r4) ∧ GS tl (d + 1) r1 r3 r4 ∧ (r3 = 0 → s3 = 0 ∧ s1 < r1) := by
 unfold listing_reader_want.f
 rw [peek_some tl s1 s2 s3 s4 g.lo]
 by_cases he : (pkB tl s1 s3).toList = w.toList
 ·have hp := pk_pos (tl := tl) (s1 := s1) (s3 := s3) (by rw [Str.inj he]; exact hw)
  refine ⟨s1 + 1, s3, s4, ?_, g.next (fun _ => hp.2), fun e => ⟨e, by omega⟩⟩
  show (if (pkB tl s1 s3).toList = w.toList then _ else _) = _
  rw [if_pos he, g.w hT (by omega)]
 ·refine ⟨s1 + 1, flC s3 2, flA tl s1 s2 s3 s4, ?_, (g.fail hT h2 (by decide)).next (fun e => absurd e (flC_ne (by decide))), fun e => absurd e (flC_ne (by decide))⟩
  show (if (pkB tl s1 s3).toList = w.toList then _ else _) = _
  rw [if_neg he]
  show (listing_reader_fail.f tl s1 s2 s3 s4 2).bind _ = _
  rw [fail_some tl s1 s2 s3 s4 2 g.lo]
  show some (wrap64 (s1 + 1), s2, _, _) = _
  rw [g.w hT (by omega)]
theorem index_any (sign most c : Int) (hc : c ≠ 0) (hm : 0 ≤ most) : ∃ v r1 r3 r4, Ev (fun k => listing_reader_index.f k tl s1 s2 s3 s4 sign most c) (v, r1, s2, r3, r4) ∧ Ev (fun k => r37_Reader_index.f k tl s1 s2 s3 s4 sign most c) (v, r1, s2, r3, r4) ∧ GS tl (d + 1) r1 r3 r4 ∧ s1 ≤ r1 ∧ (r3 = 0 → s3 = 0 ∧ s1 < r1 ∧ 0 ≤ v ∧ v ≤ most) := by
 have hsz := pk_sz hT (s1 := s1) (s3 := s3) g.lo
 have hpk := peek_some tl s1 s2 s3 s4 g.lo
 have hpp := pk_pos (tl := tl) (s1 := s1) (s3 := s3)
 generalize pkB tl s1 s3 = b at *
 have key : ∀ x : Bool, (x = false → 2 ≤ b.size) → ∃ v r1 r3 r4, (Ev (fun k => listing_reader_index.j0 k most c b x tl s1 s2 s3 s4) (v, r1, s2, r3, r4)) ∧ (Ev (fun k => r37_Reader_index.j0 k most c b x tl s1 s2 s3 s4) (v, r1, s2, r3, r4)) ∧ GS tl (d + 1) r1 r3 r4 ∧ s1 ≤ r1 ∧ (r3 = 0 → s3 = 0 ∧ s1 < r1 ∧ 0 ≤ v ∧ v ≤ most) := by
  intro x hx
  have hfl := fail_some tl s1 s2 s3 s4 c g.lo
  cases x with
  | true =>
   have hg := (g.fail hT h2 hc).up (show d ≤ d + 1 by omega)
   exact ⟨0, s1, flC s3 c, flA tl s1 s2 s3 s4, Ev.step (fun k => by simp only [listing_reader_index.j0]; rfl) (ev_pos (c := (true = true)) rfl (ev_some hfl (Ev.now _))), Ev.step (fun k => by simp only [r37_Reader_index.j0]; rfl) (ev_pos (c := (true = true)) rfl (ev_some hfl (Ev.now _))), hg, Int.le_refl _, fun e => absurd e (flC_ne hc)⟩
  | false =>
   have h2b := hx rfl
   have hp := hpp (fun e => by rw [e] at h2b; exact absurd h2b (by decide))
   have hw := g.w hT (by omega)
   have eb : b.extract 1 b.size = mk (b.data.toList.drop 1) := by
    have := mk_from b.data.toList 1
    rw [← mk_data b] at this
    exact this
   have hl : (b.data.toList.drop 1).length ≤ 4611686018427387904 := by rw [List.length_drop, ← size_data]; omega
   have hi := index_ev (b.data.toList.drop 1) hl most
   have hir := ref_index (b.data.toList.drop 1) hl most
   rw [← eb] at hi hir
   generalize parseL (b.data.toList.drop 1) = q at hi hir
   by_cases hq : q.2 = 0 ∧ ¬ (q.1 < 0 ∨ q.1 > most)
   ·rw [if_pos hq.1, if_neg hq.2] at hi hir
    exact ⟨q.1, s1 + 1, s3, s4, by
     refine Ev.step (fun k => by simp only [listing_reader_index.j0]; rfl) ?_
     refine ev_neg (by simp) (ev_pos (by omega) (ev_bind'' hi (ev_pos (c := ((0 : Int) = 0)) rfl ?_)))
     simp only [hw]
     exact Ev.now _, by
     refine Ev.step (fun k => by simp only [r37_Reader_index.j0]; rfl) ?_
     refine ev_neg (by simp) (ev_pos (by omega) (ev_bind'' hir (ev_pos (c := ((0 : Int) = 0)) rfl ?_)))
     simp only [hw]
     exact Ev.now _, g.next (fun _ => hp.2), by omega, fun e => ⟨e, by omega, by omega, by omega⟩⟩
   ·have hbad : ∃ v m, m ≠ 0 ∧ (if q.2 = 0 then (if q.1 < 0 ∨ q.1 > most then ((0 : Int), (18 : Int)) else (q.1, 0)) else (0, q.2)) = (v, m) := by
     by_cases hq2 : q.2 = 0
     ·by_cases hq3 : q.1 < 0 ∨ q.1 > most
      ·exact ⟨0, 18, by decide, by rw [if_pos hq2, if_pos hq3]⟩
      ·exact absurd ⟨hq2, hq3⟩ hq
     ·exact ⟨0, q.2, hq2, by rw [if_neg hq2]⟩
    obtain ⟨v, m, hm0, hvm⟩ := hbad
    rw [hvm] at hi hir
    have hg := (g.fail hT h2 hc).next (fun e => absurd e (flC_ne hc))
    exact ⟨v, s1 + 1, flC s3 c, flA tl s1 s2 s3 s4, by
     refine Ev.step (fun k => by simp only [listing_reader_index.j0]; rfl) ?_
     refine ev_neg (by simp) (ev_pos (by omega) (ev_bind'' hi (ev_neg hm0 (ev_some hfl ?_))))
     simp only [hw]
     exact Ev.now _, by
     refine Ev.step (fun k => by simp only [r37_Reader_index.j0]; rfl) ?_
     refine ev_neg (by simp) (ev_pos (by omega) (ev_bind'' hir (ev_neg hm0 (ev_some hfl ?_))))
     simp only [hw]
     exact Ev.now _, hg, by omega, fun e => absurd e (flC_ne hc)⟩
 by_cases h1 : (b.size : Int) < 2
 ·obtain ⟨v, r1, r3, r4, k1, k1r, k2, k3, k4⟩ := key true (fun e => by cases e)
  exact ⟨v, r1, r3, r4, by unfold listing_reader_index.f; exact ev_some hpk (ev_pos h1 k1), by unfold r37_Reader_index.f; exact ev_some hpk (ev_pos h1 k1r), k2, k3, k4⟩
 ·have h1' : 2 ≤ b.size := by omega
  obtain ⟨v, r1, r3, r4, k1, k1r, k2, k3, k4⟩ := key (bt b 0 != sign) (fun _ => h1')
  exact ⟨v, r1, r3, r4, by unfold listing_reader_index.f; exact ev_some hpk (ev_neg h1 (ev_pos (c := 0 < (b.size : Int)) (by omega) k1)), by unfold r37_Reader_index.f; exact ev_some hpk (ev_neg h1 (ev_pos (c := 0 < (b.size : Int)) (by omega) k1r)), k2, k3, k4⟩
theorem slot_any : ∃ v r1 r3 r4, Ev (fun k => listing_reader_slot.f k tl s1 s2 s3 s4) (v, r1, s2, r3, r4) ∧ Ev (fun k => r37_Reader_slot.f k tl s1 s2 s3 s4) (v, r1, s2, r3, r4) ∧ GS tl (d + 1) r1 r3 r4 ∧ s1 ≤ r1 ∧ (r3 = 0 → s3 = 0 ∧ s1 < r1) := by
 have hpk := peek_some tl s1 s2 s3 s4 g.lo
 by_cases he : (pkB tl s1 s3).toList = ([95] : List UInt8)
 ·have hp := pk_pos (tl := tl) (s1 := s1) (s3 := s3) (fun e => by rw [e, toList_eq] at he; exact absurd he (by decide))
  have hw := g.w hT (by omega)
  exact ⟨-1, s1 + 1, s3, s4, by unfold listing_reader_slot.f; exact ev_some hpk (ev_pos he (by simp only [hw]; exact Ev.now _)), by unfold r37_Reader_slot.f; exact ev_some hpk (ev_pos he (by simp only [hw]; exact Ev.now _)), g.next (fun _ => hp.2), by omega, fun e => ⟨e, by omega⟩⟩
 ·obtain ⟨v, r1, r3, r4, k1, k1r, k2, k3, k4⟩ := index_any hT g h2 hd 115 4095 8 (by decide) (by decide)
  exact ⟨v, r1, r3, r4, by unfold listing_reader_slot.f; exact ev_some hpk (ev_neg he (ev_bind'' k1 (Ev.now _))), by unfold r37_Reader_slot.f; exact ev_some hpk (ev_neg he (ev_bind'' k1r (Ev.now _))), k2, k3, fun e => ⟨(k4 e).1, (k4 e).2.1⟩⟩
theorem number_any : ∃ v r1 r3 r4, Ev (fun k => listing_reader_number.f k tl s1 s2 s3 s4) (v, r1, s2, r3, r4) ∧ Ev (fun k => r37_Reader_number.f k tl s1 s2 s3 s4) (v, r1, s2, r3, r4) ∧ GS tl (d + 1) r1 r3 r4 ∧ s1 ≤ r1 ∧ (r3 = 0 → s3 = 0 ∧ s1 < r1) ∧ -9223372036854775808 ≤ v ∧ v ≤ 9223372036854775807 := by
 have hpk := peek_some tl s1 s2 s3 s4 g.lo
 have hsz := pk_sz hT (s1 := s1) (s3 := s3) g.lo
 have hpp := pk_pos (tl := tl) (s1 := s1) (s3 := s3)
 have hfl := fun c => fail_some tl s1 s2 s3 s4 c g.lo
 have hw := g.w hT (by omega)
 generalize pkB tl s1 s3 = b at *
 have hb := mk_data b
 have hl : b.data.toList.length ≤ 4611686018427387904 := by rw [← size_data]; omega
 have hi := parse_ev b.data.toList hl
 have hir := ref_parse b.data.toList hl
 have hbnd := parseL_bounds b.data.toList
 have hempty : b.data.toList = [] → (parseL b.data.toList).2 ≠ 0 := fun e => by rw [e]; decide
 rw [← hb] at hi hir
 generalize parseL b.data.toList = q at *
 by_cases hq : q.2 = 0
 ·have hp := hpp (fun e => hempty (by rw [e]) hq)
  exact ⟨q.1, s1 + 1, s3, s4, by unfold listing_reader_number.f; exact ev_some hpk (ev_bind'' hi (ev_pos hq (by simp only [hw]; exact Ev.now _))), by unfold r37_Reader_number.f; exact ev_some hpk (ev_bind'' hir (ev_pos hq (by simp only [hw]; exact Ev.now _))), g.next (fun _ => hp.2), by omega, fun e => ⟨e, by omega⟩, hbnd⟩
 ·have hg := (g.fail hT h2 hq).next (fun e => absurd e (flC_ne hq))
  exact ⟨q.1, s1 + 1, flC s3 q.2, flA tl s1 s2 s3 s4, by unfold listing_reader_number.f; exact ev_some hpk (ev_bind'' hi (ev_neg hq (ev_some (hfl q.2) (by simp only [hw]; exact Ev.now _)))), by unfold r37_Reader_number.f; exact ev_some hpk (ev_bind'' hir (ev_neg hq (ev_some (hfl q.2) (by simp only [hw]; exact Ev.now _)))), hg, by omega, fun e => absurd e (flC_ne hq), hbnd⟩
end
theorem list_loop {tl : List Tok} (hT : Toks tl) {s2 : Int} (h2 : 0 ≤ s2) : ∀ (m : Nat) (acc : List Int) (d s1 s3 s4 : Int), GS tl d s1 s3 s4 → 4 ≤ d → d ≤ 800 → (s3 = 0 → (tl.length : Int) + 1 - s1 ≤ m) → acc.length + m ≤ 300000 →
  ∃ out r1 r3 r4, Ev (fun k => listing_reader_list.l0 k acc tl s1 s2 s3 s4) (out, r1, s2, r3, r4) ∧ Ev (fun k => r37_Reader_list.l0 k acc tl s1 s2 s3 s4) (out, r1, s2, r3, r4) ∧ GS tl (d + 1) r1 r3 r4 ∧ (r3 = 0 → s3 = 0 ∧ s1 + out.length + 1 ≤ r1 + acc.length) ∧ out.length ≤ acc.length + m := by
 intro m
 induction m with
 | zero =>
  intro acc d s1 s3 s4 g h4 hd hm ha
  have h3 : ¬ s3 = 0 := fun e => by have := hm e; have := g.ok e; omega
  obtain ⟨r1, r3, r4, k1, k2, k3⟩ := want_any hT g h2 (by omega) (⟨#[41]⟩ : ByteArray) (by decide)
  refine ⟨acc, r1, r3, r4, ?_, ?_, k2, fun e => absurd (k3 e).1 h3, by omega⟩
  ·refine Ev.step (fun k => by simp only [listing_reader_list.l0]; rfl) (ev_neg h3 (Ev.step (fun k => by simp only [listing_reader_list.j1]; rfl) (ev_neg (by simp) (ev_some k1 (Ev.now _)))))
  ·refine Ev.step (fun k => by simp only [r37_Reader_list.l0]; rfl) (ev_neg h3 (Ev.step (fun k => by simp only [r37_Reader_list.j1]; rfl) (ev_neg (by simp) (ev_some k1 (Ev.now _)))))
  
 | succ m ih =>
  intro acc d s1 s3 s4 g h4 hd hm ha
  by_cases h3 : s3 = 0
  ·have g0 := g.zero h3
   have hpk := peek_some tl s1 s2 s3 s4 g.lo
   cases hb : ((pkB tl s1 s3).toList != ([41] : List UInt8)) with
   | false =>
    obtain ⟨r1, r3, r4, k1, k2, k3⟩ := want_any hT g h2 (by omega) (⟨#[41]⟩ : ByteArray) (by decide)
    refine ⟨acc, r1, r3, r4, ?_, ?_, k2, fun e => ⟨h3, by have := (k3 e).2; omega⟩, by omega⟩
    ·refine Ev.step (fun k => by simp only [listing_reader_list.l0]; rfl) (ev_pos h3 (ev_some hpk ?_))
     simp only [hb]
     exact Ev.step (fun k => by simp only [listing_reader_list.j1]; rfl) (ev_neg (by simp) (ev_some k1 (Ev.now _)))
    ·refine Ev.step (fun k => by simp only [r37_Reader_list.l0]; rfl) (ev_pos h3 (ev_some hpk ?_))
     simp only [hb]
     exact Ev.step (fun k => by simp only [r37_Reader_list.j1]; rfl) (ev_neg (by simp) (ev_some k1 (Ev.now _)))
    
   | true =>
    by_cases h8 : (acc.length : Int) ≥ 8
    ·have gf := g0.fail hT h2 (c := 6) (by decide)
     have hfl := fail_some tl s1 s2 s3 s4 6 g.lo
     obtain ⟨v, r1, r3, r4, k1, k1r, k2, k3, k4⟩ := slot_any hT gf h2 (by omega)
     have hr3 : ¬ r3 = 0 := fun e => absurd (k4 e).1 (flC_ne (by decide))
     obtain ⟨out, t1, t3, t4, j1, j1r, j2, j3, j4⟩ := ih (acc ++ [v]) d r1 r3 r4 (k2.up (by omega)) h4 hd (fun e => absurd e hr3) (by rw [List.length_append, List.length_singleton]; omega)
     refine ⟨out, t1, t3, t4, ?_, ?_, j2, fun e => absurd (j3 e).1 hr3, by rw [List.length_append, List.length_singleton] at j4; omega⟩
     ·refine Ev.step (fun k => by simp only [listing_reader_list.l0]; rfl) (ev_pos h3 (ev_some hpk ?_))
      simp only [hb]
      exact Ev.step (fun k => by simp only [listing_reader_list.j1]; rfl) (ev_pos (c := (true = true)) rfl (ev_pos h8 (ev_some hfl (ev_bind'' k1 (ev_pos (c := acc.length < 17592186044416) (by omega) j1)))))
     ·refine Ev.step (fun k => by simp only [r37_Reader_list.l0]; rfl) (ev_pos h3 (ev_some hpk ?_))
      simp only [hb]
      exact Ev.step (fun k => by simp only [r37_Reader_list.j1]; rfl) (ev_pos (c := (true = true)) rfl (ev_pos h8 (ev_some hfl (ev_bind'' k1r (ev_pos (c := acc.length < 17592186044416) (by omega) j1r)))))
     
    ·obtain ⟨v, r1, r3, r4, k1, k1r, k2, k3, k4⟩ := slot_any hT g0 h2 (by omega)
     have hm1 := hm h3
     obtain ⟨out, t1, t3, t4, j1, j1r, j2, j3, j4⟩ := ih (acc ++ [v]) d r1 r3 r4 (k2.up (by omega)) h4 hd (fun e => by have := (k4 e).2; omega) (by rw [List.length_append, List.length_singleton]; omega)
     refine ⟨out, t1, t3, t4, ?_, ?_, j2, fun e => ⟨h3, by have a1 := (j3 e).2; have a2 := (k4 (j3 e).1).2; rw [List.length_append, List.length_singleton] at a1; omega⟩, by rw [List.length_append, List.length_singleton] at j4; omega⟩
     ·refine Ev.step (fun k => by simp only [listing_reader_list.l0]; rfl) (ev_pos h3 (ev_some hpk ?_))
      simp only [hb]
      exact Ev.step (fun k => by simp only [listing_reader_list.j1]; rfl) (ev_pos (c := (true = true)) rfl (ev_neg h8 (ev_bind'' k1 (ev_pos (c := acc.length < 17592186044416) (by omega) j1))))
     ·refine Ev.step (fun k => by simp only [r37_Reader_list.l0]; rfl) (ev_pos h3 (ev_some hpk ?_))
      simp only [hb]
      exact Ev.step (fun k => by simp only [r37_Reader_list.j1]; rfl) (ev_pos (c := (true = true)) rfl (ev_neg h8 (ev_bind'' k1r (ev_pos (c := acc.length < 17592186044416) (by omega) j1r))))
     
  ·obtain ⟨r1, r3, r4, k1, k2, k3⟩ := want_any hT g h2 (by omega) (⟨#[41]⟩ : ByteArray) (by decide)
   refine ⟨acc, r1, r3, r4, ?_, ?_, k2, fun e => absurd (k3 e).1 h3, by omega⟩
   ·refine Ev.step (fun k => by simp only [listing_reader_list.l0]; rfl) (ev_neg h3 (Ev.step (fun k => by simp only [listing_reader_list.j1]; rfl) (ev_neg (by simp) (ev_some k1 (Ev.now _)))))
   ·refine Ev.step (fun k => by simp only [r37_Reader_list.l0]; rfl) (ev_neg h3 (Ev.step (fun k => by simp only [r37_Reader_list.j1]; rfl) (ev_neg (by simp) (ev_some k1 (Ev.now _)))))
   
def wordT (n : Nat) : ByteArray := (listing_Word.f (n : Int)).getD (⟨#[]⟩ : ByteArray)
theorem word_some : ∀ n : Fin 31, listing_Word.f ((n : Nat) : Int) = some (wordT n) := by decide +kernel
theorem word_ref : ∀ n : Fin 31, r37_Word.f ((n : Nat) : Int) = some (wordT n) := by decide +kernel
theorem find_loop (b : ByteArray) (hsz : b.toList ≠ []) : ∀ (d i : Nat), 31 - i = d → i ≤ 31 → ∃ op, Ev (fun k => listing_find.l0 k b (i : Int)) op ∧ Ev (fun k => r37_find.l0 k b (i : Int)) op ∧ 0 ≤ op ∧ op ≤ 30 := by
 intro d
 induction d with
 | zero =>
  intro i hd hi
  exact ⟨0, Ev.step (fun k => by simp only [listing_find.l0]; rfl) (ev_neg (by omega) (Ev.now _)), Ev.step (fun k => by simp only [r37_find.l0]; rfl) (ev_neg (by omega) (Ev.now _)), by decide, by decide⟩
 | succ d ih =>
  intro i hd hi
  obtain ⟨op, k1, k1r, k2, k3⟩ := ih (i + 1) (by omega) (by omega)
  have hw : wrap64 ((i : Int) + 1) = ((i + 1 : Nat) : Int) := by rw [w64 (by omega) (by omega)]; omega
  rw [← hw] at k1 k1r
  have hs := word_some ⟨i, by omega⟩
  have hsr := word_ref ⟨i, by omega⟩
  by_cases he : (wordT i).toList = b.toList
  ·exact ⟨(i : Int), Ev.step (fun k => by simp only [listing_find.l0]; rfl) (ev_pos (by omega) (ev_neg hsz (ev_some hs (ev_pos he (Ev.now _))))), Ev.step (fun k => by simp only [r37_find.l0]; rfl) (ev_pos (by omega) (ev_neg hsz (ev_some hsr (ev_pos he (Ev.now _))))), by omega, by omega⟩
  ·exact ⟨op, Ev.step (fun k => by simp only [listing_find.l0]; rfl) (ev_pos (by omega) (ev_neg hsz (ev_some hs (ev_neg he k1)))), Ev.step (fun k => by simp only [r37_find.l0]; rfl) (ev_pos (by omega) (ev_neg hsz (ev_some hsr (ev_neg he k1r)))), k2, k3⟩
theorem find_none (b : ByteArray) (hsz : b.toList = []) : ∀ (d i : Nat), 31 - i = d → i ≤ 31 → Ev (fun k => listing_find.l0 k b (i : Int)) 0 ∧ Ev (fun k => r37_find.l0 k b (i : Int)) 0 := by
 intro d
 induction d with
 | zero =>
  intro i hd hi
  exact ⟨Ev.step (fun k => by simp only [listing_find.l0]; rfl) (ev_neg (by omega) (Ev.now _)), Ev.step (fun k => by simp only [r37_find.l0]; rfl) (ev_neg (by omega) (Ev.now _))⟩
 | succ d ih =>
  intro i hd hi
  obtain ⟨k1, k1r⟩ := ih (i + 1) (by omega) (by omega)
  have hw : wrap64 ((i : Int) + 1) = ((i + 1 : Nat) : Int) := by rw [w64 (by omega) (by omega)]; omega
  rw [← hw] at k1 k1r
  exact ⟨Ev.step (fun k => by simp only [listing_find.l0]; rfl) (ev_pos (by omega) (ev_pos hsz k1)), Ev.step (fun k => by simp only [r37_find.l0]; rfl) (ev_pos (by omega) (ev_pos hsz k1r))⟩
theorem find_any (b : ByteArray) : ∃ op, Ev (fun k => listing_find.f k b) op ∧ Ev (fun k => r37_find.f k b) op ∧ 0 ≤ op ∧ op ≤ 30 ∧ (op ≠ 0 → b ≠ (⟨#[]⟩ : ByteArray)) := by
 by_cases hb : b.toList = []
 ·obtain ⟨k1, k1r⟩ := find_none b hb 30 1 rfl (by decide)
  exact ⟨0, k1, k1r, by decide, by decide, fun e => absurd rfl e⟩
 ·obtain ⟨op, k1, k1r, k2, k3⟩ := find_loop b hb 30 1 rfl (by decide)
  exact ⟨op, k1, k1r, k2, k3, fun _ e => hb (by rw [e, toList_eq])⟩
section
variable {tl : List Tok} (hT : Toks tl) {d s1 s2 s3 s4 : Int} (g : GS tl d s1 s3 s4) (h2 : 0 ≤ s2) (hd : d ≤ 700) (hd0 : 0 ≤ d)
include hT g h2 hd hd0
theorem list_any : ∃ out r1 r3 r4, Ev (fun k => listing_reader_list.f k tl s1 s2 s3 s4) (out, r1, s2, r3, r4) ∧ Ev (fun k => r37_Reader_list.f k tl s1 s2 s3 s4) (out, r1, s2, r3, r4) ∧ GS tl (d + 6) r1 r3 r4 ∧ (r3 = 0 → s3 = 0 ∧ s1 + out.length + 2 ≤ r1) ∧ out.length ≤ 200000 := by
 obtain ⟨r1, r3, r4, k1, k2, k3⟩ := want_any hT g h2 (by omega) (⟨#[40]⟩ : ByteArray) (by decide)
 have hl := hT.len
 obtain ⟨out, t1, t3, t4, j1, j1r, j2, j3, j4⟩ := list_loop hT h2 (tl.length + 1) [] (d + 5) r1 r3 r4 (k2.up (by omega)) (by omega) (by omega) (fun _ => by have := k2.lo; omega) (by simp; omega)
 refine ⟨out, t1, t3, t4, ?_, ?_, j2.up (by omega), fun e => ⟨(k3 (j3 e).1).1, by have a1 := (j3 e).2; have a2 := (k3 (j3 e).1).2; rw [List.length_nil] at a1; omega⟩, by rw [List.length_nil] at j4; omega⟩
 ·unfold listing_reader_list.f
  exact ev_some k1 j1
 ·unfold r37_Reader_list.f
  exact ev_some k1 j1r
end
structure XB (x : S37) : Prop where
 n : -9223372036854775808 ≤ x.f4 ∧ x.f4 ≤ 9223372036854775807
 l : x.f5.length ≤ 200000
def convC (op : Int) (c : UInt8) : List UInt8 := if c = 97 then (if op = 21 then [102] else [97]) else if c = 115 ∨ c = 119 then [110] else if c = 116 then [111, 116] else [c]
def conv (op : Int) : List UInt8 → List UInt8
 | [] => []
 | c :: cs => convC op c ++ conv op cs
theorem steps_any {tl : List Tok} (hT : Toks tl) {s2 : Int} (h2 : 0 ≤ s2) : ∀ (cs : List UInt8) (x : S37) (d s1 s3 s4 : Int), (∀ c ∈ cs, c ∈ ([100, 97, 98, 115, 119, 108, 111, 116] : List UInt8)) → XB x → GS tl d s1 s3 s4 → 0 ≤ d → d + 12 * cs.length ≤ 650 →
  ∃ x' r1 r3 r4, Ev (fun k => riSteps k tl (conv x.f0 cs) (x, s1, s2, s3, s4)) (x', r1, s2, r3, r4) ∧ Ev (fun k => rrSteps k tl cs (x, s1, s2, s3, s4)) (x', r1, s2, r3, r4) ∧ GS tl (d + 12 * cs.length) r1 r3 r4 ∧ (r3 = 0 → s3 = 0 ∧ s1 ≤ r1) ∧ XB x' ∧ x'.f0 = x.f0 := by
 intro cs
 induction cs with
 | nil =>
  intro x d s1 s3 s4 hcs hx g hd0 hd
  exact ⟨x, s1, s3, s4, Ev.now _, Ev.now _, g.up (by omega), fun e => ⟨e, Int.le_refl _⟩, hx, rfl⟩
 | cons c cs ih =>
  intro x d s1 s3 s4 hcs hx g hd0 hd
  have hc := hcs c (List.mem_cons_self ..)
  simp only [List.mem_cons, List.not_mem_nil, or_false] at hc
  rcases hc with rfl | rfl | rfl | rfl | rfl | rfl | rfl | rfl
  ·skip
   have hd1 : d + 12 * (cs.length + 1) ≤ 650 := by rw [List.length_cons] at hd; omega
   obtain ⟨v, r1, r3, r4, k1, k1r, k2, k3, k4⟩ := slot_any hT g h2 (by omega)
   obtain ⟨x', t1, t3, t4, j1, j1r, j2, j3, j4, j5⟩ := ih (⟨x.f0, v, x.f2, x.f3, x.f4, x.f5, ⟨x.f6.f0, x.f6.f1⟩⟩ : S37) (d + 1) r1 r3 r4 (fun c hc => hcs c (List.mem_cons_of_mem _ hc)) ⟨hx.n, hx.l⟩ (k2.up (by omega)) (by omega) (by omega)
   refine ⟨x', t1, t3, t4, ?_, ?_, j2.up (by rw [List.length_cons]; omega), fun e => ⟨(k4 (j3 e).1).1, by have a1 := (j3 e).2; have a2 := (k4 (j3 e).1).2; omega⟩, j4, j5⟩
   ·skip
    refine ev_bind'' (a := ((⟨x.f0, v, x.f2, x.f3, x.f4, x.f5, ⟨x.f6.f0, x.f6.f1⟩⟩ : S37), r1, s2, r3, r4)) ?_ ?_
    ·show Ev (fun k => (listing_reader_slot.f k tl s1 s2 s3 s4).bind fun y0 => some ((⟨x.f0, y0.1, x.f2, x.f3, x.f4, x.f5, ⟨x.f6.f0, x.f6.f1⟩⟩ : S37), y0.2.1, y0.2.2.1, y0.2.2.2.1, y0.2.2.2.2)) _
     exact ev_bind'' k1 (Ev.now _)
    exact j1
   ·skip
    refine ev_bind'' (a := ((⟨x.f0, v, x.f2, x.f3, x.f4, x.f5, ⟨x.f6.f0, x.f6.f1⟩⟩ : S37), r1, s2, r3, r4)) ?_ j1r
    show Ev (fun k => (r37_Reader_slot.f k tl s1 s2 s3 s4).bind fun y0 => some ((⟨x.f0, y0.1, x.f2, x.f3, x.f4, x.f5, ⟨x.f6.f0, x.f6.f1⟩⟩ : S37), y0.2.1, y0.2.2.1, y0.2.2.2.1, y0.2.2.2.2)) _
    exact ev_bind'' k1r (Ev.now _)
  ·by_cases h21 : x.f0 = 21
   ·skip
    have hd1 : d + 12 * (cs.length + 1) ≤ 650 := by rw [List.length_cons] at hd; omega
    obtain ⟨v, r1, r3, r4, k1, k1r, k2, k3, k4⟩ := index_any hT g h2 (by omega) 102 31 12 (by decide) (by decide)
    obtain ⟨x', t1, t3, t4, j1, j1r, j2, j3, j4, j5⟩ := ih (⟨x.f0, x.f1, v, x.f3, x.f4, x.f5, ⟨x.f6.f0, x.f6.f1⟩⟩ : S37) (d + 1) r1 r3 r4 (fun c hc => hcs c (List.mem_cons_of_mem _ hc)) ⟨hx.n, hx.l⟩ (k2.up (by omega)) (by omega) (by omega)
    refine ⟨x', t1, t3, t4, ?_, ?_, j2.up (by rw [List.length_cons]; omega), fun e => ⟨(k4 (j3 e).1).1, by have a1 := (j3 e).2; have a2 := (k4 (j3 e).1).2; omega⟩, j4, j5⟩
    ·skip
     rw [show conv x.f0 (97 :: cs) = 102 :: conv x.f0 cs from by show (if x.f0 = 21 then [102] else [97]) ++ _ = _; rw [if_pos h21]; rfl]
     refine ev_bind'' (a := ((⟨x.f0, x.f1, v, x.f3, x.f4, x.f5, ⟨x.f6.f0, x.f6.f1⟩⟩ : S37), r1, s2, r3, r4)) ?_ ?_
     ·show Ev (fun k => (listing_reader_index.f k tl s1 s2 s3 s4 102 31 12).bind fun y0 => some ((⟨x.f0, x.f1, y0.1, x.f3, x.f4, x.f5, ⟨x.f6.f0, x.f6.f1⟩⟩ : S37), y0.2.1, y0.2.2.1, y0.2.2.2.1, y0.2.2.2.2)) _
      exact ev_bind'' k1 (Ev.now _)
     exact j1
    ·skip
     refine ev_bind'' (a := ((⟨x.f0, x.f1, v, x.f3, x.f4, x.f5, ⟨x.f6.f0, x.f6.f1⟩⟩ : S37), r1, s2, r3, r4)) ?_ j1r
     show Ev (fun k => rrStep k tl 97 (x, s1, s2, s3, s4)) _
     have e_ : ∀ k, rrStep k tl 97 (x, s1, s2, s3, s4) = (r37_Reader_index.f k tl s1 s2 s3 s4 102 31 12).bind fun y0 => some ((⟨x.f0, x.f1, y0.1, x.f3, x.f4, x.f5, ⟨x.f6.f0, x.f6.f1⟩⟩ : S37), y0.2.1, y0.2.2.1, y0.2.2.2.1, y0.2.2.2.2) := fun k => by
      show (if x.f0 = 21 then _ else _) = _
      rw [if_pos h21]
      rfl
     exact Ev.congr e_ (ev_bind'' k1r (Ev.now _))
   ·skip
    have hd1 : d + 12 * (cs.length + 1) ≤ 650 := by rw [List.length_cons] at hd; omega
    obtain ⟨v, r1, r3, r4, k1, k1r, k2, k3, k4⟩ := slot_any hT g h2 (by omega)
    obtain ⟨x', t1, t3, t4, j1, j1r, j2, j3, j4, j5⟩ := ih (⟨x.f0, x.f1, v, x.f3, x.f4, x.f5, ⟨x.f6.f0, x.f6.f1⟩⟩ : S37) (d + 1) r1 r3 r4 (fun c hc => hcs c (List.mem_cons_of_mem _ hc)) ⟨hx.n, hx.l⟩ (k2.up (by omega)) (by omega) (by omega)
    refine ⟨x', t1, t3, t4, ?_, ?_, j2.up (by rw [List.length_cons]; omega), fun e => ⟨(k4 (j3 e).1).1, by have a1 := (j3 e).2; have a2 := (k4 (j3 e).1).2; omega⟩, j4, j5⟩
    ·skip
     rw [show conv x.f0 (97 :: cs) = 97 :: conv x.f0 cs from by show (if x.f0 = 21 then [102] else [97]) ++ _ = _; rw [if_neg h21]; rfl]
     refine ev_bind'' (a := ((⟨x.f0, x.f1, v, x.f3, x.f4, x.f5, ⟨x.f6.f0, x.f6.f1⟩⟩ : S37), r1, s2, r3, r4)) ?_ ?_
     ·show Ev (fun k => (listing_reader_slot.f k tl s1 s2 s3 s4).bind fun y0 => some ((⟨x.f0, x.f1, y0.1, x.f3, x.f4, x.f5, ⟨x.f6.f0, x.f6.f1⟩⟩ : S37), y0.2.1, y0.2.2.1, y0.2.2.2.1, y0.2.2.2.2)) _
      exact ev_bind'' k1 (Ev.now _)
     exact j1
    ·skip
     refine ev_bind'' (a := ((⟨x.f0, x.f1, v, x.f3, x.f4, x.f5, ⟨x.f6.f0, x.f6.f1⟩⟩ : S37), r1, s2, r3, r4)) ?_ j1r
     show Ev (fun k => rrStep k tl 97 (x, s1, s2, s3, s4)) _
     have e_ : ∀ k, rrStep k tl 97 (x, s1, s2, s3, s4) = (r37_Reader_slot.f k tl s1 s2 s3 s4).bind fun y0 => some ((⟨x.f0, x.f1, y0.1, x.f3, x.f4, x.f5, ⟨x.f6.f0, x.f6.f1⟩⟩ : S37), y0.2.1, y0.2.2.1, y0.2.2.2.1, y0.2.2.2.2) := fun k => by
      show (if x.f0 = 21 then _ else _) = _
      rw [if_neg h21]
      rfl
     exact Ev.congr e_ (ev_bind'' k1r (Ev.now _))
  ·skip
   have hd1 : d + 12 * (cs.length + 1) ≤ 650 := by rw [List.length_cons] at hd; omega
   obtain ⟨v, r1, r3, r4, k1, k1r, k2, k3, k4⟩ := slot_any hT g h2 (by omega)
   obtain ⟨x', t1, t3, t4, j1, j1r, j2, j3, j4, j5⟩ := ih (⟨x.f0, x.f1, x.f2, v, x.f4, x.f5, ⟨x.f6.f0, x.f6.f1⟩⟩ : S37) (d + 1) r1 r3 r4 (fun c hc => hcs c (List.mem_cons_of_mem _ hc)) ⟨hx.n, hx.l⟩ (k2.up (by omega)) (by omega) (by omega)
   refine ⟨x', t1, t3, t4, ?_, ?_, j2.up (by rw [List.length_cons]; omega), fun e => ⟨(k4 (j3 e).1).1, by have a1 := (j3 e).2; have a2 := (k4 (j3 e).1).2; omega⟩, j4, j5⟩
   ·skip
    refine ev_bind'' (a := ((⟨x.f0, x.f1, x.f2, v, x.f4, x.f5, ⟨x.f6.f0, x.f6.f1⟩⟩ : S37), r1, s2, r3, r4)) ?_ ?_
    ·show Ev (fun k => (listing_reader_slot.f k tl s1 s2 s3 s4).bind fun y0 => some ((⟨x.f0, x.f1, x.f2, y0.1, x.f4, x.f5, ⟨x.f6.f0, x.f6.f1⟩⟩ : S37), y0.2.1, y0.2.2.1, y0.2.2.2.1, y0.2.2.2.2)) _
     exact ev_bind'' k1 (Ev.now _)
    exact j1
   ·skip
    refine ev_bind'' (a := ((⟨x.f0, x.f1, x.f2, v, x.f4, x.f5, ⟨x.f6.f0, x.f6.f1⟩⟩ : S37), r1, s2, r3, r4)) ?_ j1r
    show Ev (fun k => (r37_Reader_slot.f k tl s1 s2 s3 s4).bind fun y0 => some ((⟨x.f0, x.f1, x.f2, y0.1, x.f4, x.f5, ⟨x.f6.f0, x.f6.f1⟩⟩ : S37), y0.2.1, y0.2.2.1, y0.2.2.2.1, y0.2.2.2.2)) _
    exact ev_bind'' k1r (Ev.now _)
  ·skip
   have hd1 : d + 12 * (cs.length + 1) ≤ 650 := by rw [List.length_cons] at hd; omega
   obtain ⟨v, r1, r3, r4, k1, k1r, k2, k3, k4, kb1, kb2⟩ := number_any hT g h2 (by omega)
   obtain ⟨x', t1, t3, t4, j1, j1r, j2, j3, j4, j5⟩ := ih (⟨x.f0, x.f1, x.f2, x.f3, v, x.f5, ⟨x.f6.f0, x.f6.f1⟩⟩ : S37) (d + 1) r1 r3 r4 (fun c hc => hcs c (List.mem_cons_of_mem _ hc)) ⟨⟨kb1, kb2⟩, hx.l⟩ (k2.up (by omega)) (by omega) (by omega)
   refine ⟨x', t1, t3, t4, ?_, ?_, j2.up (by rw [List.length_cons]; omega), fun e => ⟨(k4 (j3 e).1).1, by have a1 := (j3 e).2; have a2 := (k4 (j3 e).1).2; omega⟩, j4, j5⟩
   ·skip
    refine ev_bind'' (a := ((⟨x.f0, x.f1, x.f2, x.f3, v, x.f5, ⟨x.f6.f0, x.f6.f1⟩⟩ : S37), r1, s2, r3, r4)) ?_ ?_
    ·show Ev (fun k => (listing_reader_number.f k tl s1 s2 s3 s4).bind fun y0 => some ((⟨x.f0, x.f1, x.f2, x.f3, y0.1, x.f5, ⟨x.f6.f0, x.f6.f1⟩⟩ : S37), y0.2.1, y0.2.2.1, y0.2.2.2.1, y0.2.2.2.2)) _
     exact ev_bind'' k1 (Ev.now _)
    exact j1
   ·skip
    refine ev_bind'' (a := ((⟨x.f0, x.f1, x.f2, x.f3, v, x.f5, ⟨x.f6.f0, x.f6.f1⟩⟩ : S37), r1, s2, r3, r4)) ?_ j1r
    show Ev (fun k => (r37_Reader_number.f k tl s1 s2 s3 s4).bind fun y0 => some ((⟨x.f0, x.f1, x.f2, x.f3, y0.1, x.f5, ⟨x.f6.f0, x.f6.f1⟩⟩ : S37), y0.2.1, y0.2.2.1, y0.2.2.2.1, y0.2.2.2.2)) _
    exact ev_bind'' k1r (Ev.now _)
  ·skip
   have hd1 : d + 12 * (cs.length + 1) ≤ 650 := by rw [List.length_cons] at hd; omega
   obtain ⟨v, r1, r3, r4, k1, k1r, k2, k3, k4, kb1, kb2⟩ := number_any hT g h2 (by omega)
   obtain ⟨x', t1, t3, t4, j1, j1r, j2, j3, j4, j5⟩ := ih (⟨x.f0, x.f1, x.f2, x.f3, v, x.f5, ⟨x.f6.f0, x.f6.f1⟩⟩ : S37) (d + 1) r1 r3 r4 (fun c hc => hcs c (List.mem_cons_of_mem _ hc)) ⟨⟨kb1, kb2⟩, hx.l⟩ (k2.up (by omega)) (by omega) (by omega)
   refine ⟨x', t1, t3, t4, ?_, ?_, j2.up (by rw [List.length_cons]; omega), fun e => ⟨(k4 (j3 e).1).1, by have a1 := (j3 e).2; have a2 := (k4 (j3 e).1).2; omega⟩, j4, j5⟩
   ·skip
    refine ev_bind'' (a := ((⟨x.f0, x.f1, x.f2, x.f3, v, x.f5, ⟨x.f6.f0, x.f6.f1⟩⟩ : S37), r1, s2, r3, r4)) ?_ ?_
    ·show Ev (fun k => (listing_reader_number.f k tl s1 s2 s3 s4).bind fun y0 => some ((⟨x.f0, x.f1, x.f2, x.f3, y0.1, x.f5, ⟨x.f6.f0, x.f6.f1⟩⟩ : S37), y0.2.1, y0.2.2.1, y0.2.2.2.1, y0.2.2.2.2)) _
     exact ev_bind'' k1 (Ev.now _)
    exact j1
   ·skip
    refine ev_bind'' (a := ((⟨x.f0, x.f1, x.f2, x.f3, v, x.f5, ⟨x.f6.f0, x.f6.f1⟩⟩ : S37), r1, s2, r3, r4)) ?_ j1r
    show Ev (fun k => (r37_Reader_number.f k tl s1 s2 s3 s4).bind fun y0 => some ((⟨x.f0, x.f1, x.f2, x.f3, y0.1, x.f5, ⟨x.f6.f0, x.f6.f1⟩⟩ : S37), y0.2.1, y0.2.2.1, y0.2.2.2.1, y0.2.2.2.2)) _
    exact ev_bind'' k1r (Ev.now _)
  ·skip
   have hd1 : d + 12 * (cs.length + 1) ≤ 650 := by rw [List.length_cons] at hd; omega
   obtain ⟨v, r1, r3, r4, k1, k1r, k2, k4, kl⟩ := list_any hT g h2 (by omega) hd0
   obtain ⟨x', t1, t3, t4, j1, j1r, j2, j3, j4, j5⟩ := ih (⟨x.f0, x.f1, x.f2, x.f3, x.f4, v, ⟨x.f6.f0, x.f6.f1⟩⟩ : S37) (d + 6) r1 r3 r4 (fun c hc => hcs c (List.mem_cons_of_mem _ hc)) ⟨hx.n, kl⟩ (k2.up (by omega)) (by omega) (by omega)
   refine ⟨x', t1, t3, t4, ?_, ?_, j2.up (by rw [List.length_cons]; omega), fun e => ⟨(k4 (j3 e).1).1, by have a1 := (j3 e).2; have a2 := (k4 (j3 e).1).2; omega⟩, j4, j5⟩
   ·skip
    refine ev_bind'' (a := ((⟨x.f0, x.f1, x.f2, x.f3, x.f4, v, ⟨x.f6.f0, x.f6.f1⟩⟩ : S37), r1, s2, r3, r4)) ?_ ?_
    ·show Ev (fun k => (listing_reader_list.f k tl s1 s2 s3 s4).bind fun y0 => some ((⟨x.f0, x.f1, x.f2, x.f3, x.f4, y0.1, ⟨x.f6.f0, x.f6.f1⟩⟩ : S37), y0.2.1, y0.2.2.1, y0.2.2.2.1, y0.2.2.2.2)) _
     exact ev_bind'' k1 (Ev.now _)
    exact j1
   ·skip
    refine ev_bind'' (a := ((⟨x.f0, x.f1, x.f2, x.f3, x.f4, v, ⟨x.f6.f0, x.f6.f1⟩⟩ : S37), r1, s2, r3, r4)) ?_ j1r
    show Ev (fun k => (r37_Reader_list.f k tl s1 s2 s3 s4).bind fun y0 => some ((⟨x.f0, x.f1, x.f2, x.f3, x.f4, y0.1, ⟨x.f6.f0, x.f6.f1⟩⟩ : S37), y0.2.1, y0.2.2.1, y0.2.2.2.1, y0.2.2.2.2)) _
    exact ev_bind'' k1r (Ev.now _)
  ·skip
   have hd1 : d + 12 * (cs.length + 1) ≤ 650 := by rw [List.length_cons] at hd; omega
   obtain ⟨v, r1, r3, r4, k1, k1r, k2, k3, k4⟩ := index_any hT g h2 (by omega) 64 65535 7 (by decide) (by decide)
   obtain ⟨x', t1, t3, t4, j1, j1r, j2, j3, j4, j5⟩ := ih (⟨x.f0, x.f1, x.f2, x.f3, x.f4, x.f5, ⟨v, x.f6.f1⟩⟩ : S37) (d + 1) r1 r3 r4 (fun c hc => hcs c (List.mem_cons_of_mem _ hc)) ⟨hx.n, hx.l⟩ (k2.up (by omega)) (by omega) (by omega)
   refine ⟨x', t1, t3, t4, ?_, ?_, j2.up (by rw [List.length_cons]; omega), fun e => ⟨(k4 (j3 e).1).1, by have a1 := (j3 e).2; have a2 := (k4 (j3 e).1).2; omega⟩, j4, j5⟩
   ·skip
    refine ev_bind'' (a := ((⟨x.f0, x.f1, x.f2, x.f3, x.f4, x.f5, ⟨v, x.f6.f1⟩⟩ : S37), r1, s2, r3, r4)) ?_ ?_
    ·show Ev (fun k => (listing_reader_index.f k tl s1 s2 s3 s4 64 65535 7).bind fun y0 => some ((⟨x.f0, x.f1, x.f2, x.f3, x.f4, x.f5, ⟨y0.1, x.f6.f1⟩⟩ : S37), y0.2.1, y0.2.2.1, y0.2.2.2.1, y0.2.2.2.2)) _
     exact ev_bind'' k1 (Ev.now _)
    exact j1
   ·skip
    refine ev_bind'' (a := ((⟨x.f0, x.f1, x.f2, x.f3, x.f4, x.f5, ⟨v, x.f6.f1⟩⟩ : S37), r1, s2, r3, r4)) ?_ j1r
    show Ev (fun k => (r37_Reader_index.f k tl s1 s2 s3 s4 64 65535 7).bind fun y0 => some ((⟨x.f0, x.f1, x.f2, x.f3, x.f4, x.f5, ⟨y0.1, x.f6.f1⟩⟩ : S37), y0.2.1, y0.2.2.1, y0.2.2.2.1, y0.2.2.2.2)) _
    exact ev_bind'' k1r (Ev.now _)
  ·skip
   have hd1 : d + 12 * (cs.length + 1) ≤ 650 := by rw [List.length_cons] at hd; omega
   obtain ⟨v, r1, r3, r4, k1, k1r, k2, k3, k4⟩ := index_any hT g h2 (by omega) 64 65535 7 (by decide) (by decide)
   have g1 := k2
   obtain ⟨v', r1', r3', r4', k1', k1r', k2', k3', k4'⟩ := index_any hT g1 h2 (by omega) 64 65535 7 (by decide) (by decide)
   obtain ⟨x', t1, t3, t4, j1, j1r, j2, j3, j4, j5⟩ := ih (⟨x.f0, x.f1, x.f2, x.f3, x.f4, x.f5, ⟨v, v'⟩⟩ : S37) (d + 2) r1' r3' r4' (fun c hc => hcs c (List.mem_cons_of_mem _ hc)) ⟨hx.n, hx.l⟩ (k2'.up (by omega)) (by omega) (by omega)
   refine ⟨x', t1, t3, t4, ?_, ?_, j2.up (by rw [List.length_cons]; omega), fun e => ⟨(k4 (k4' (j3 e).1).1).1, by have a1 := (j3 e).2; have a2 := (k4 (k4' (j3 e).1).1).2; have a3 := (k4' (j3 e).1).2; omega⟩, j4, j5⟩
   ·skip
    refine ev_bind'' (a := ((⟨x.f0, x.f1, x.f2, x.f3, x.f4, x.f5, ⟨v, x.f6.f1⟩⟩ : S37), r1, s2, r3, r4)) ?_ ?_
    ·show Ev (fun k => (listing_reader_index.f k tl s1 s2 s3 s4 64 65535 7).bind fun y0 => some ((⟨x.f0, x.f1, x.f2, x.f3, x.f4, x.f5, ⟨y0.1, x.f6.f1⟩⟩ : S37), y0.2.1, y0.2.2.1, y0.2.2.2.1, y0.2.2.2.2)) _
     exact ev_bind'' k1 (Ev.now _)
    refine ev_bind'' (a := ((⟨x.f0, x.f1, x.f2, x.f3, x.f4, x.f5, ⟨v, v'⟩⟩ : S37), r1', s2, r3', r4')) ?_ ?_
    ·show Ev (fun k => (listing_reader_index.f k tl r1 s2 r3 r4 64 65535 7).bind fun y0 => some ((⟨x.f0, x.f1, x.f2, x.f3, x.f4, x.f5, ⟨v, y0.1⟩⟩ : S37), y0.2.1, y0.2.2.1, y0.2.2.2.1, y0.2.2.2.2)) _
     exact ev_bind'' k1' (Ev.now _)
    exact j1
   ·skip
    refine ev_bind'' (a := ((⟨x.f0, x.f1, x.f2, x.f3, x.f4, x.f5, ⟨v, v'⟩⟩ : S37), r1', s2, r3', r4')) ?_ j1r
    show Ev (fun k => (r37_Reader_index.f k tl s1 s2 s3 s4 64 65535 7).bind fun y0 => (r37_Reader_index.f k tl y0.2.1 y0.2.2.1 y0.2.2.2.1 y0.2.2.2.2 64 65535 7).bind fun y1 => some ((⟨x.f0, x.f1, x.f2, x.f3, x.f4, x.f5, ⟨y0.1, y1.1⟩⟩ : S37), y1.2.1, y1.2.2.1, y1.2.2.2.1, y1.2.2.2.2)) _
    exact ev_bind'' k1r (ev_bind'' k1r' (Ev.now _))
theorem parts_fin : ∀ n : Fin 31, listing_parts.f 60 ((n : Nat) : Int) = some ((listing_parts.f 60 ((n : Nat) : Int)).getD (⟨#[]⟩ : ByteArray)) := by decide +kernel
def partsT (n : Nat) : ByteArray := (listing_parts.f 60 (n : Int)).getD (⟨#[]⟩ : ByteArray)
theorem parts_ev (n : Nat) (hn : n ≤ 30) : Ev (fun k => listing_parts.f k (n : Int)) (partsT n) := Ev.of (fun k => listing_parts.mono (n : Int) k) (k := 60) (parts_fin ⟨n, by omega⟩)
theorem parts_ok : ∀ n : Fin 31, (asciiB (partsT n) = true ∧ (partsT n).size ≤ 8) ∧ (partsT n).data.toList.all (fun c => [100, 97, 98, 102, 110, 108, 111, 116].contains c) = true := by decide +kernel
theorem pieces_ok : ∀ n : Fin 31, (asciiB (piecesS ((n : Nat) : Int)) = true ∧ (piecesS ((n : Nat) : Int)).size ≤ 8) ∧ (piecesS ((n : Nat) : Int)).data.toList.all (fun c => [100, 97, 98, 115, 119, 108, 111, 116].contains c) = true ∧ conv ((n : Nat) : Int) (piecesS ((n : Nat) : Int)).data.toList = (partsT n).data.toList := by decide +kernel
theorem all_in {l s : List UInt8} (h : l.all (fun c => s.contains c) = true) : ∀ c ∈ l, c ∈ s := fun c hc => by
 have := List.all_eq_true.mp h c hc
 simpa using this
section
variable {tl : List Tok} (hT : Toks tl) {d s1 s2 s3 s4 : Int} (g : GS tl d s1 s3 s4) (h2 : 0 ≤ s2) (hd : d ≤ 500) (hd0 : 0 ≤ d)
include hT g h2 hd hd0
theorem inst_any : ∃ x r1 r3 r4, Ev (fun k => listing_reader_inst.f k tl s1 s2 s3 s4) (riOut (x, r1, s2, r3, r4)) ∧ Ev (fun k => r37_Reader_inst.f k tl s1 s2 s3 s4) (riOut (x, r1, s2, r3, r4)) ∧ GS tl (d + 97) r1 r3 r4 ∧ (r3 = 0 → s3 = 0 ∧ s1 < r1) ∧ XB x := by
 have hpk := peek_some tl s1 s2 s3 s4 g.lo
 obtain ⟨op, f1, f1r, f2, f3, f4⟩ := find_any (pkB tl s1 s3)
 have hpp := pk_pos (tl := tl) (s1 := s1) (s3 := s3)
 generalize pkB tl s1 s3 = b at *
 obtain ⟨q3, q4, hq, gq, hn, hz⟩ : ∃ q3 q4, (if op = 0 then listing_reader_fail.f tl s1 s2 s3 s4 2 else some (s1, s2, s3, s4)) = some (s1, s2, q3, q4) ∧ GS tl d s1 q3 q4 ∧ (q3 = 0 → s1 < (tl.length : Int)) ∧ (q3 = 0 → s3 = 0) := by
  by_cases h0 : op = 0
  ·exact ⟨flC s3 2, flA tl s1 s2 s3 s4, by rw [if_pos h0]; exact fail_some tl s1 s2 s3 s4 2 g.lo, g.fail hT h2 (by decide), fun e => absurd e (flC_ne (by decide)), fun e => absurd e (flC_ne (by decide))⟩
  ·exact ⟨s3, s4, by rw [if_neg h0], g, fun _ => (hpp (f4 h0)).2, fun e => e⟩
 have hw := g.w hT (by omega)
 obtain ⟨n, rfl⟩ := Int.eq_ofNat_of_zero_le f2
 have hn30 : n ≤ 30 := by omega
 have hp := parts_ev n hn30
 obtain ⟨ho, ha⟩ := parts_ok ⟨n, by omega⟩
 obtain ⟨hor, har, hcv⟩ := pieces_ok ⟨n, by omega⟩
 replace hor : asciiB (piecesS (n : Int)) = true ∧ (piecesS (n : Int)).size ≤ 8 := hor
 replace har : (piecesS (n : Int)).data.toList.all _ = true := har
 replace hcv : conv (n : Int) (piecesS (n : Int)).data.toList = (partsT n).data.toList := hcv
 replace ho : asciiB (partsT n) = true ∧ (partsT n).size ≤ 8 := ho
 replace ha : (partsT n).data.toList.all _ = true := ha
 have hlen : (piecesS (n : Int)).data.toList.length ≤ 8 := by rw [← size_data]; exact hor.2
 obtain ⟨x', r1, r3, r4, k1, k1r, k2, k3, k4, k5⟩ := steps_any hT h2 (piecesS (n : Int)).data.toList ⟨(n : Int), -1, -1, -1, 0, [], ⟨0, 0⟩⟩ (d + 1) (s1 + 1) q3 q4 (all_in har) ⟨⟨by show (-9223372036854775808 : Int) ≤ 0; decide, by show (0 : Int) ≤ 9223372036854775807; decide⟩, by show ([] : List Int).length ≤ _; decide⟩ (gq.next hn) (by omega) (by omega)
 replace k1 : Ev (fun k => riSteps k tl (conv (n : Int) (piecesS (n : Int)).data.toList) _) _ := k1
 rw [hcv] at k1
 refine ⟨x', r1, r3, r4, ?_, ?_, k2.up (by omega), fun e => ⟨hz (k3 e).1, by have := (k3 e).2; omega⟩, k4⟩
 ·unfold listing_reader_inst.f
  refine ev_some hpk (ev_bind'' f1 (ev_some hq (ev_bind'' hp (ev_pos ho ?_))))
  simp only [hw]
  exact ev_bind'' k1 (Ev.now _)
 ·unfold r37_Reader_inst.f
  refine ev_some hpk (ev_bind'' f1r (ev_some hq (ev_some (show r33_Pieces.f (n : Int) = some (piecesS (n : Int)) from rfl) (ev_pos hor ?_))))
  simp only [hw]
  exact ev_bind'' k1r (Ev.now _)
 
end
theorem loop_any {tl : List Tok} (hT : Toks tl) {s2 : Int} (h2 : 0 ≤ s2) : ∀ (m : Nat) (acc : List S37) (d s1 s3 s4 : Int), GS tl d s1 s3 s4 → 97 ≤ d → d ≤ 400 → (s3 = 0 → (tl.length : Int) + 1 - s1 ≤ m) → acc.length + m ≤ 300000 → (∀ x ∈ acc, XB x) →
  ∃ out r1 r3 r4, Ev (fun k => rbLoop k tl acc s1 s2 s3 s4) (out, r1, s2, r3, r4) ∧ Ev (fun k => rcLoop k tl acc s1 s2 s3 s4) (out, r1, s2, r3, r4) ∧ GS tl d r1 r3 r4 ∧ (r3 = 0 → s3 = 0 ∧ s1 ≤ r1) ∧ out.length ≤ acc.length + m ∧ ∀ x ∈ out, XB x := by
 intro m
 induction m with
 | zero =>
  intro acc d s1 s3 s4 g h4 hd hm ha hx
  have h3 : ¬ s3 = 0 := fun e => by have := hm e; have := g.ok e; omega
  exact ⟨acc, s1, s3, s4, Ev.step (fun k => by simp only [rbLoop]; rfl) (ev_neg h3 (Ev.now _)), Ev.step (fun k => by simp only [rcLoop]; rfl) (ev_neg h3 (Ev.now _)), g, fun e => ⟨e, Int.le_refl _⟩, by omega, hx⟩
 | succ m ih =>
  intro acc d s1 s3 s4 g h4 hd hm ha hx
  by_cases h3 : s3 = 0
  ·have g0 := g.zero h3
   have hm1 := hm h3
   have hpk := peek_some tl s1 s2 s3 s4 g.lo
   by_cases hb : (pkB tl s1 s3).toList = ([125] : List UInt8)
   ·exact ⟨acc, s1, s3, s4, Ev.step (fun k => by simp only [rbLoop]; rfl) (ev_pos h3 (ev_some hpk (ev_pos hb (Ev.now _)))), Ev.step (fun k => by simp only [rcLoop]; rfl) (ev_pos h3 (ev_some hpk (ev_pos hb (Ev.now _)))), g, fun e => ⟨e, Int.le_refl _⟩, by omega, hx⟩
   ·obtain ⟨x, r1, r3, r4, k1, k1r, k2, k3, k4⟩ := inst_any hT g0 h2 (by omega) (by omega)
    obtain ⟨out, t1, t3, t4, j1, j1r, j2, j3, j4, j5⟩ := ih (acc ++ [x]) d r1 r3 r4 (k2.up (by omega)) h4 hd (fun e => by have := (k3 e).2; omega) (by rw [List.length_append, List.length_singleton]; omega) (fun y hy => by
     rcases List.mem_append.mp hy with hy | hy
     ·exact hx y hy
     ·rw [List.mem_singleton.mp hy]; exact k4)
    refine ⟨out, t1, t3, t4, ?_, ?_, j2, fun e => ⟨h3, by have := (j3 e).2; have := (k3 (j3 e).1).2; omega⟩, by rw [List.length_append, List.length_singleton] at j4; omega, j5⟩
    ·exact Ev.step (fun k => by simp only [rbLoop]; rfl) (ev_pos h3 (ev_some hpk (ev_neg hb (ev_bind'' k1 (ev_pos (c := acc.length < 1000000000000) (by omega) j1)))))
    ·exact Ev.step (fun k => by simp only [rcLoop]; rfl) (ev_pos h3 (ev_some hpk (ev_neg hb (ev_bind'' k1r (ev_pos (c := acc.length < 1000000000000) (by omega) j1r)))))
    
  ·exact ⟨acc, s1, s3, s4, Ev.step (fun k => by simp only [rbLoop]; rfl) (ev_neg h3 (Ev.now _)), Ev.step (fun k => by simp only [rcLoop]; rfl) (ev_neg h3 (Ev.now _)), g, fun e => ⟨e, Int.le_refl _⟩, by omega, hx⟩
structure FB (f : S33) : Prop where
 p : f.f0.length ≤ 300000
 c : f.f2.length ≤ 300000
 x : ∀ y ∈ f.f2, XB y
section
variable {tl : List Tok} (hT : Toks tl) {d s1 s2 s3 s4 : Int} (g : GS tl d s1 s3 s4) (h2 : 0 ≤ s2) (hd : d ≤ 20) (hd0 : 0 ≤ d)
include hT g h2 hd hd0
theorem body_any : ∃ ps n co r1 r3 r4, Ev (fun k => listing_reader_body.f k tl s1 s2 s3 s4) (ps, n, co, r1, s2, r3, r4) ∧ Ev (fun k => r37_Reader_body.f k tl s1 s2 s3 s4) (ps, n, co, r1, s2, r3, r4) ∧ GS tl 121 r1 r3 r4 ∧ (r3 = 0 → s3 = 0 ∧ s1 < r1) ∧ FB ⟨ps, n, co⟩ := by
 have hlen := hT.len
 obtain ⟨a1, a3, a4, w1, w2, w3⟩ := want_any hT g h2 (by omega) (⟨#[98, 111, 100, 121]⟩ : ByteArray) (by decide)
 obtain ⟨ps, b1, b3, b4, l1, l1r, l2, l3, l4⟩ := list_any hT w2 h2 (by omega) (by omega)
 have hpk := peek_some tl b1 s2 b3 b4 l2.lo
 have hsz := pk_sz hT (s1 := b1) (s3 := b3) l2.lo
 have hpp := pk_pos (tl := tl) (s1 := b1) (s3 := b3)
 generalize pkB tl b1 b3 = b at *
 have hbl : b.data.toList.length ≤ 4611686018427387904 := by rw [← size_data]; omega
 have hi := index_ev b.data.toList hbl 4096
 have hir := ref_index b.data.toList hbl 4096
 have hb := mk_data b
 rw [← hb] at hi hir
 have hne : (if (parseL b.data.toList).2 = 0 then (if (parseL b.data.toList).1 < 0 ∨ (parseL b.data.toList).1 > 4096 then ((0 : Int), (18 : Int)) else ((parseL b.data.toList).1, 0)) else (0, (parseL b.data.toList).2)).2 = 0 → b ≠ (⟨#[]⟩ : ByteArray) := by
  intro e e2
  rw [e2] at e
  exact absurd e (by decide)
 generalize (if (parseL b.data.toList).2 = 0 then (if (parseL b.data.toList).1 < 0 ∨ (parseL b.data.toList).1 > 4096 then ((0 : Int), (18 : Int)) else ((parseL b.data.toList).1, 0)) else (0, (parseL b.data.toList).2)) = nn at *
 obtain ⟨n, nc⟩ := nn
 obtain ⟨q3, q4, hq, gq, hn, hz⟩ : ∃ q3 q4, (if nc = 0 then some (b1, s2, b3, b4) else listing_reader_fail.f tl b1 s2 b3 b4 nc) = some (b1, s2, q3, q4) ∧ GS tl (d + 7) b1 q3 q4 ∧ (q3 = 0 → b1 < (tl.length : Int)) ∧ (q3 = 0 → b3 = 0) := by
  by_cases h0 : nc = 0
  ·exact ⟨b3, b4, by rw [if_pos h0], l2.up (by omega), fun _ => (hpp (hne h0)).2, fun e => e⟩
  ·exact ⟨flC b3 nc, flA tl b1 s2 b3 b4, by rw [if_neg h0]; exact fail_some tl b1 s2 b3 b4 nc l2.lo, (l2.fail hT h2 h0).up (by omega), fun e => absurd e (flC_ne h0), fun e => absurd e (flC_ne h0)⟩
 have hw := gq.w hT (by omega)
 obtain ⟨o1, o3, o4, v1, v2, v3⟩ := want_any hT (gq.next hn) h2 (by omega) (⟨#[123]⟩ : ByteArray) (by decide)
 obtain ⟨co, c1, c3, c4, m1, m1r, m2, m3, m4, m5⟩ := loop_any hT h2 (tl.length + 1) [] 120 o1 o3 o4 (v2.up (by omega)) (by decide) (by decide) (fun _ => by have := v2.lo; omega) (by simp; omega) (fun x hx => by cases hx)
 obtain ⟨e1, e3, e4, u1, u2, u3⟩ := want_any hT m2 h2 (by omega) (⟨#[125]⟩ : ByteArray) (by decide)
 refine ⟨ps, n, co, e1, e3, e4, ?_, ?_, u2, fun e => ?_, ⟨by show ps.length ≤ _; omega, by show co.length ≤ _; rw [List.length_nil] at m4; omega, m5⟩⟩
 ·unfold listing_reader_body.f
  refine ev_some w1 (ev_bind'' l1 (ev_some hpk (ev_bind'' hi (ev_some hq ?_))))
  simp only [hw]
  exact ev_some v1 (ev_bind'' m1 (ev_some u1 (Ev.now _)))
 ·unfold r37_Reader_body.f
  refine ev_some w1 (ev_bind'' l1r (ev_some hpk (ev_bind'' hir (ev_some hq ?_))))
  simp only [hw]
  exact ev_some v1 (ev_bind'' m1r (ev_some u1 (Ev.now _)))
 ·obtain ⟨z1, z2⟩ := u3 e
  obtain ⟨z3, z4⟩ := m3 z1
  obtain ⟨z5, z6⟩ := v3 z3
  obtain ⟨z7, z8⟩ := l3 (hz z5)
  obtain ⟨z9, z10⟩ := w3 z7
  exact ⟨z9, by omega⟩
end
theorem bodies_any {tl : List Tok} (hT : Toks tl) {s2 : Int} (h2 : 0 ≤ s2) : ∀ (m : Nat) (acc : List S33) (s1 s3 s4 : Int), GS tl 121 s1 s3 s4 → (s3 = 0 → (tl.length : Int) + 1 - s1 ≤ m) → acc.length + m ≤ 300000 → (∀ x ∈ acc, FB x) →
  ∃ out r1 r3 r4, Ev (fun k => rdLoop k tl acc s1 s2 s3 s4) (out, r1, s2, r3, r4) ∧ Ev (fun k => reLoop k tl acc s1 s2 s3 s4) (out, r1, s2, r3, r4) ∧ 0 ≤ r4 ∧ out.length ≤ acc.length + m ∧ (∀ x ∈ out, FB x) := by
 intro m
 induction m with
 | zero =>
  intro acc s1 s3 s4 g hm ha hx
  have h3 : ¬ s3 = 0 := fun e => by have := hm e; have := g.ok e; omega
  exact ⟨acc, s1, s3, s4, Ev.step (fun k => by simp only [rdLoop]; rfl) (ev_neg (c := s3 = 0 ∧ s1 < (tl.length : Int)) (fun e => h3 e.1) (Ev.now _)), Ev.step (fun k => by simp only [reLoop]; rfl) (ev_neg (c := s3 = 0 ∧ s1 < (tl.length : Int)) (fun e => h3 e.1) (Ev.now _)), g.e, by omega, hx⟩
 | succ m ih =>
  intro acc s1 s3 s4 g hm ha hx
  by_cases hc : s3 = 0 ∧ s1 < (tl.length : Int)
  ·have hm1 := hm hc.1
   obtain ⟨ps, n, co, r1, r3, r4, k1, k1r, k2, k3, k4⟩ := body_any hT (g.zero hc.1) h2 (by omega) (by omega)
   obtain ⟨out, t1, t3, t4, j1, j1r, j2, j3, j4⟩ := ih (acc ++ [⟨ps, n, co⟩]) r1 r3 r4 k2 (fun e => by have := (k3 e).2; omega) (by rw [List.length_append, List.length_singleton]; omega) (fun y hy => by
    rcases List.mem_append.mp hy with hy | hy
    ·exact hx y hy
    ·rw [List.mem_singleton.mp hy]; exact k4)
   refine ⟨out, t1, t3, t4, ?_, ?_, j2, by rw [List.length_append, List.length_singleton] at j3; omega, j4⟩
   ·exact Ev.step (fun k => by simp only [rdLoop]; rfl) (ev_pos hc (ev_bind'' k1 (ev_pos (c := acc.length < 1000000000000) (by omega) j1)))
   ·exact Ev.step (fun k => by simp only [reLoop]; rfl) (ev_pos hc (ev_bind'' k1r (ev_pos (c := acc.length < 1000000000000) (by omega) j1r)))
   
  ·exact ⟨acc, s1, s3, s4, Ev.step (fun k => by simp only [rdLoop]; rfl) (ev_neg hc (Ev.now _)), Ev.step (fun k => by simp only [reLoop]; rfl) (ev_neg hc (Ev.now _)), g.e, by omega, hx⟩
theorem words_any {tl : List Tok} (hT : Toks tl) {s2 : Int} (h2 : 0 ≤ s2) : ∃ out r1 r3 r4, Ev (fun k => rdLoop k tl [] 0 s2 0 0) (out, r1, s2, r3, r4) ∧ Ev (fun k => reLoop k tl [] 0 s2 0 0) (out, r1, s2, r3, r4) ∧ 0 ≤ r4 ∧ out.length ≤ 200000 ∧ (∀ x ∈ out, FB x) := by
 have hlen := hT.len
 obtain ⟨out, r1, r3, r4, k1, k1r, k2, k3, k4⟩ := bodies_any hT h2 (tl.length + 1) [] 0 0 0 ⟨by decide, by omega, fun _ => by omega, by decide⟩ (fun _ => by omega) (by simp; omega) (fun x hx => by cases hx)
 exact ⟨out, r1, r3, r4, k1, k1r, k2, by rw [List.length_nil] at k3; omega, k4⟩
end Go.Proofs.Ytkgjbdbhpohkiaa.LiReadB
end
-- from YtkgjbdbhpohkiaaLiSplit
section
namespace Go.Proofs.Ytkgjbdbhpohkiaa.PLi
open Go.RowKit Go.Proofs.YtkgjbdbhpohkiaaW.PrintWords Go.Proofs.YtkgjbdbhpohkiaaW.PrintLast Go.Proofs.YtkgjbdbhpohkiaaW.PrintMore Go.Proofs.Ytkgjbdbhpohkiaa.Str
set_option linter.unusedVariables false
set_option linter.unusedSimpArgs false
def Stand (s : ByteArray) : Int → List Tok → Int → Prop
 | a, [], b => a ≤ b
 | a, t :: l, b => a ≤ t.f1 ∧ 0 < t.f0.size ∧ t.f1 + t.f0.size ≤ s.size ∧ s.extract t.f1.toNat (t.f1 + t.f0.size).toNat = t.f0 ∧ Stand s (t.f1 + t.f0.size) l b
theorem stand_snoc {s : ByteArray} {t : Tok} {b c : Int} : ∀ {l : List Tok} {a : Int}, Stand s a l b → b ≤ t.f1 → 0 < t.f0.size → t.f1 + t.f0.size ≤ s.size → s.extract t.f1.toNat (t.f1 + t.f0.size).toNat = t.f0 → t.f1 + t.f0.size ≤ c → Stand s a (l ++ [t]) c := by
 intro l
 induction l with
 | nil => intro a h h1 h2 h3 h4 h5; exact ⟨Int.le_trans h h1, h2, h3, h4, h5⟩
 | cons x l ih => intro a h h1 h2 h3 h4 h5; exact ⟨h.1, h.2.1, h.2.2.1, h.2.2.2.1, ih h.2.2.2.2 h1 h2 h3 h4 h5⟩
theorem stand_le {s : ByteArray} {b c : Int} (hbc : b ≤ c) : ∀ {l : List Tok} {a : Int}, Stand s a l b → Stand s a l c := by
 intro l
 induction l with
 | nil => intro a h; exact Int.le_trans h hbc
 | cons x l ih => intro a h; exact ⟨h.1, h.2.1, h.2.2.1, h.2.2.2.1, ih h.2.2.2.2⟩
theorem ext_size (s : ByteArray) (a b : Nat) (h : a ≤ b) (hb : b ≤ s.size) : (s.extract a b).size = b - a := by
 rw [ByteArray.size_extract]; omega
theorem stand_close {s : ByteArray} {fr : Int} {i : Nat} {out : List Tok} {e : Int} (h : Stand s 0 out e) (hi : i ≤ s.size) (hf : fr = -1 ∧ e ≤ i ∨ e ≤ fr ∧ 0 ≤ fr ∧ fr < i) : Stand s 0 (closeW s fr i out) i := by
 unfold closeW
 rcases hf with ⟨h1, h2⟩ | ⟨h1, h2, h3⟩
 ·rw [if_pos (by omega)]; exact stand_le h2 h
 ·rw [if_neg (by omega)]
  have hs : (s.extract fr.toNat i).size = i - fr.toNat := ext_size s _ _ (by omega) hi
  have hs2 : ((s.extract fr.toNat i).size : Int) = i - fr := by rw [hs]; omega
  refine stand_snoc h h1 (by show 0 < (s.extract fr.toNat i).size; omega) (by show fr + ((s.extract fr.toNat i).size : Int) ≤ _; omega) ?_ (by show fr + ((s.extract fr.toNat i).size : Int) ≤ _; omega)
  show s.extract fr.toNat (fr + ((s.extract fr.toNat i).size : Int)).toNat = s.extract fr.toNat i
  congr 1
  omega
theorem ext_one (s : ByteArray) (i : Nat) (c : UInt8) (l : List UInt8) (h : s.data.toList.drop i = c :: l) : s.extract i (i + 1) = mk [c] := by
 have e : s = mk s.data.toList := mk_data s
 have h2 : (s.data.toList.drop i).take 1 = [c] := by rw [h]; rfl
 rw [e, mk_extract]
 congr 1
 have : (List.take (i + 1) s.data.toList).drop i = List.take 1 (s.data.toList.drop i) := by
  rw [List.drop_take]; congr 1; omega
 rw [this, h2]
theorem split_stand (s : ByteArray) : ∀ (l : List UInt8) (i : Nat) (fr : Int) (noted : Bool) (out : List Tok) (e : Int) (r1 : List Tok) (r2 r3 : Int), s.data.toList.drop i = l → i ≤ s.size → Stand s 0 out e → (fr = -1 ∧ e ≤ i ∨ e ≤ fr ∧ 0 ≤ fr ∧ fr < i) →
  splitGo s l i fr noted out = (r1, r2, r3) → (r2 = 0 ∧ Stand s 0 r1 s.size) ∨ (r2 = 1 ∧ r1 = [] ∧ 0 ≤ r3 ∧ r3 < s.size) := by
 intro l
 induction l with
 | nil =>
  intro i fr noted out e r1 r2 r3 hd hi hs hf h
  rw [splitGo] at h
  obtain ⟨rfl, h2⟩ := Prod.mk.inj h
  obtain ⟨rfl, rfl⟩ := Prod.mk.inj h2
  exact .inl ⟨rfl, stand_le (by omega) (stand_close hs hi hf)⟩
 | cons c l ih =>
  intro i fr noted out e r1 r2 r3 hd hi hs hf h
  have hlt : i < s.size := by
   have h9 := congrArg List.length hd
   rw [List.length_drop, List.length_cons] at h9
   have : s.size = s.data.toList.length := rfl
   omega
  have hd2 : s.data.toList.drop (i + 1) = l := by
   rw [← List.drop_drop, hd]; rfl
  have hc := stand_close hs hi hf
  rw [splitGo] at h
  by_cases hn : noted = true
  ·rw [if_pos hn] at h
   exact ih (i + 1) fr _ out e r1 r2 r3 hd2 hlt hs (by omega) h
  ·rw [if_neg hn] at h
   by_cases h0 : kindR c.toNat = 0
   ·rw [if_pos h0] at h
    exact ih (i + 1) (-1) _ _ i r1 r2 r3 hd2 hlt hc (.inl ⟨rfl, by omega⟩) h
   ·rw [if_neg h0] at h
    by_cases h1 : kindR c.toNat = 1
    ·rw [if_pos h1] at h
     refine ih (i + 1) (-1) _ _ ((i + 1 : Nat) : Int) r1 r2 r3 hd2 hlt (stand_snoc hc (Int.le_refl _) (by show 0 < (mk [c]).size; rw [mk_size]; exact Nat.one_pos) ?_ ?_ ?_) (.inl ⟨rfl, by omega⟩) h
     ·show (i : Int) + ((mk [c]).size : Int) ≤ _; rw [mk_size, List.length_singleton]; omega
     ·show s.extract i ((i : Int) + ((mk [c]).size : Int)).toNat = mk [c]
      rw [mk_size, List.length_singleton]
      exact ext_one s i c l hd
     ·show (i : Int) + ((mk [c]).size : Int) ≤ _; rw [mk_size, List.length_singleton]; omega
    ·rw [if_neg h1] at h
     by_cases h2 : kindR c.toNat = 2
     ·rw [if_pos h2] at h
      by_cases hfr : fr < 0
      ·rw [if_pos hfr] at h
       exact ih (i + 1) i _ _ e r1 r2 r3 hd2 hlt hs (.inr (by omega)) h
      ·rw [if_neg hfr] at h
       exact ih (i + 1) fr _ _ e r1 r2 r3 hd2 hlt hs (by omega) h
     ·rw [if_neg h2] at h
      by_cases h3 : kindR c.toNat = 3
      ·rw [if_pos h3] at h
       exact ih (i + 1) (-1) _ _ i r1 r2 r3 hd2 hlt hc (.inl ⟨rfl, by omega⟩) h
      ·rw [if_neg h3] at h
       obtain ⟨rfl, h4⟩ := Prod.mk.inj h
       obtain ⟨rfl, rfl⟩ := Prod.mk.inj h4
       exact .inr ⟨rfl, rfl, by omega, by omega⟩
theorem stand_in {s : ByteArray} : ∀ {l : List Tok} {a b : Int}, Stand s a l b → ∀ t ∈ l, a ≤ t.f1 ∧ t.f0.size ≤ s.size := by
 intro l
 induction l with
 | nil => intro a b _ t ht; cases ht
 | cons x l ih =>
  intro a b h t ht
  rcases List.mem_cons.mp ht with rfl | ht
  ·exact ⟨h.1, by
    have := congrArg ByteArray.size h.2.2.2.1
    rw [ByteArray.size_extract] at this
    omega⟩
  ·have := ih h.2.2.2.2 t ht
   exact ⟨by have := h.1; omega, this.2⟩
theorem stand_len {s : ByteArray} : ∀ {l : List Tok} {a b : Int}, Stand s a l b → (l.length : Int) ≤ b - a := by
 intro l
 induction l with
 | nil => intro a b h; have : a ≤ b := h; simp; omega
 | cons x l ih =>
  intro a b h
  have := ih h.2.2.2.2
  have h1 := h.1
  have h2 := h.2.1
  rw [List.length_cons]
  omega
end Go.Proofs.Ytkgjbdbhpohkiaa.PLi
end
