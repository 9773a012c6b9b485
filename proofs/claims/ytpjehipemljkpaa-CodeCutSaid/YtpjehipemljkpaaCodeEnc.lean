/- Bodies as bytes, and bodies out of bytes: plain functions, and that each undoes the other. -/
import Derived.Test.YtpjehipemljkpaaCodeNum
namespace Go.Proofs.Ytpjehipemljkpaa.CodeLaw
open Go.RowKit Go.Proofs.Ytpjehipemljkpaa.PCo Go.Proofs.YtpjehipemljkpaaW.PrintWords Go.Proofs.YtpjehipemljkpaaW.PrintLast Go.Proofs.YtpjehipemljkpaaW.PrintMore Go.Proofs.Ytpjehipemljkpaa.Str
set_option linter.unusedSimpArgs false
set_option linter.unusedVariables false

theorem room0 : room 0 = 18446744073709551616 := rfl
def upP (top : Nat) (s : List Int) : Option (Nat × List Int) := (numP 0 s).bind fun p => if p.1 ≤ top then some p else none
theorem upP_some {top : Nat} {s : List Int} (hs : Bytes s) {n : Nat} {r : List Int} (h : upP top s = some (n, r)) : n ≤ top ∧ s = vint n ++ r := by
  obtain ⟨⟨m, q⟩, h1, h2⟩ := Option.bind_eq_some_iff.mp h
  by_cases hm : m ≤ top
  · rw [if_pos hm] at h2
    obtain ⟨rfl, rfl⟩ := Prod.mk.inj (Option.some.inj h2)
    exact ⟨hm, (numP_some s 0 hs (by omega) _ _ h1).2.1⟩
  · rw [if_neg hm] at h2; cases h2
theorem upP_vint {top n : Nat} (h : n ≤ top) (ht : top < 18446744073709551616) (r : List Int) : upP top (vint n ++ r) = some (n, r) := by
  unfold upP
  rw [numP_vint n 0 r (by omega) (by rw [room0]; omega) (by omega)]
  exact if_pos h
theorem bytes_tail {a b : List Int} (h : Bytes (a ++ b)) : Bytes b := fun c hc => h c (by simp [hc])

/-! ### slots -/
def listP : Nat → List Int → Option (List Int × List Int)
  | 0, s => some ([], s)
  | n + 1, s => (upP 4096 s).bind fun p => (listP n p.2).bind fun q => some ((p.1 : Int) :: q.1, q.2)
def slotsP (s : List Int) : Option (List Int × List Int) := (upP 8 s).bind fun p => listP p.1 p.2
def encL (l : List Int) : List Int := l.flatMap fun v => vint v.toNat
def encS (l : List Int) : List Int := vint l.length ++ encL l
def SlotsOk (l : List Int) : Prop := l.length ≤ 8 ∧ ∀ v ∈ l, 0 ≤ v ∧ v ≤ 4096
theorem listP_some : ∀ (n : Nat) (s : List Int), Bytes s → ∀ l r, listP n s = some (l, r) → l.length = n ∧ (∀ v ∈ l, 0 ≤ v ∧ v ≤ 4096) ∧ s = encL l ++ r := by
  intro n
  induction n with
  | zero =>
    intro s hs l r h
    obtain ⟨rfl, rfl⟩ := Prod.mk.inj (Option.some.inj h)
    exact ⟨rfl, by simp, rfl⟩
  | succ n ih =>
    intro s hs l r h
    obtain ⟨⟨v, s1⟩, h1, h⟩ := Option.bind_eq_some_iff.mp h
    obtain ⟨⟨l1, r1⟩, h2, h⟩ := Option.bind_eq_some_iff.mp h
    obtain ⟨rfl, rfl⟩ := Prod.mk.inj (Option.some.inj h)
    obtain ⟨hv, rfl⟩ := upP_some hs h1
    obtain ⟨g1, g2, rfl⟩ := ih s1 (bytes_tail hs) l1 r1 h2
    refine ⟨by simp [g1], fun w hw => ?_, by simp [encL]⟩
    rcases List.mem_cons.1 hw with rfl | hw
    · exact ⟨by omega, by omega⟩
    · exact g2 w hw
theorem listP_enc : ∀ (l : List Int) (r : List Int), (∀ v ∈ l, 0 ≤ v ∧ v ≤ 4096) → listP l.length (encL l ++ r) = some (l, r) := by
  intro l
  induction l with
  | nil => intro r _; rfl
  | cons v l ih =>
    intro r h
    have hv := h v (by simp)
    show (upP 4096 ((v :: l).flatMap (fun v => vint v.toNat) ++ r)).bind _ = _
    rw [List.flatMap_cons, List.append_assoc, upP_vint (by omega) (by omega)]
    show (listP l.length (encL l ++ r)).bind _ = _
    rw [ih r (fun w hw => h w (by simp [hw]))]
    show some (((v.toNat : Nat) : Int) :: l, r) = _
    rw [Int.toNat_of_nonneg hv.1]
theorem slotsP_some {s : List Int} (hs : Bytes s) {l r : List Int} (h : slotsP s = some (l, r)) : SlotsOk l ∧ s = encS l ++ r := by
  obtain ⟨⟨n, s1⟩, h1, h2⟩ := Option.bind_eq_some_iff.mp h
  obtain ⟨hn, rfl⟩ := upP_some hs h1
  obtain ⟨g1, g2, g3⟩ := listP_some n s1 (bytes_tail hs) l r h2
  exact ⟨⟨by rw [g1]; exact hn, g2⟩, by rw [g3, encS, g1, List.append_assoc]⟩
theorem slotsP_enc {l : List Int} (h : SlotsOk l) (r : List Int) : slotsP (encS l ++ r) = some (l, r) := by
  unfold slotsP encS
  rw [List.append_assoc, upP_vint h.1 (by omega)]
  exact listP_enc l r h.2

/-! ### an instruction -/
def zig (n : Int) : Nat := if 0 ≤ n then (2 * n).toNat else (-2 * n - 1).toNat
def unzig (n : Nat) : Int := if n % 2 = 0 then ((n / 2 : Nat) : Int) else -((n / 2 : Nat) : Int) - 1
theorem unzig_zig (n : Int) : unzig (zig n) = n := by
  unfold unzig zig
  split <;> split <;> omega
theorem zig_unzig (n : Nat) : zig (unzig n) = n := by
  unfold unzig zig
  split <;> split <;> omega
def pieceP (p : Int) (x : S51) (s : List Int) : Option (S51 × List Int) :=
  if p = 0 then (upP 4097 s).map fun q => ({ x with f1 := (q.1 : Int) - 1 }, q.2)
  else if p = 1 then (upP 4097 s).map fun q => ({ x with f2 := (q.1 : Int) - 1 }, q.2)
  else if p = 2 then (upP 4097 s).map fun q => ({ x with f3 := (q.1 : Int) - 1 }, q.2)
  else if p = 3 then (upP 2097152 s).map fun q => ({ x with f4 := (q.1 : Int) }, q.2)
  else if p = 4 then (numP 0 s).map fun q => ({ x with f4 := unzig q.1 }, q.2)
  else if p = 5 then (slotsP s).map fun q => ({ x with f5 := q.1 }, q.2)
  else if p = 6 then (upP 65536 s).map fun q => ({ x with f6 := ⟨(q.1 : Int), x.f6.f1⟩ }, q.2)
  else if p = 7 then (upP 65536 s).bind fun q => (upP 65536 q.2).map fun t => ({ x with f6 := ⟨(q.1 : Int), (t.1 : Int)⟩ }, t.2)
  else some (x, s)
def encP (x : S51) (p : Int) : List Int :=
  if p = 0 then vint (x.f1 + 1).toNat else if p = 1 then vint (x.f2 + 1).toNat else if p = 2 then vint (x.f3 + 1).toNat
  else if p = 3 then vint x.f4.toNat else if p = 4 then vint (zig x.f4) else if p = 5 then encS x.f5
  else if p = 6 then vint x.f6.f0.toNat else if p = 7 then vint x.f6.f0.toNat ++ vint x.f6.f1.toNat else []
def okR (x : S51) (p : Int) : Prop :=
  if p = 0 then -1 ≤ x.f1 ∧ x.f1 ≤ 4096 else if p = 1 then -1 ≤ x.f2 ∧ x.f2 ≤ 4096 else if p = 2 then -1 ≤ x.f3 ∧ x.f3 ≤ 4096
  else if p = 3 then 0 ≤ x.f4 ∧ x.f4 ≤ 2097152 else if p = 4 then zig x.f4 < 18446744073709551616 else if p = 5 then SlotsOk x.f5
  else if p = 6 then 0 ≤ x.f6.f0 ∧ x.f6.f0 ≤ 65536 else if p = 7 then (0 ≤ x.f6.f0 ∧ x.f6.f0 ≤ 65536) ∧ 0 ≤ x.f6.f1 ∧ x.f6.f1 ≤ 65536 else True
/-- What x has of a piece, laid into y. -/
def setP (x y : S51) (p : Int) : S51 :=
  if p = 0 then { y with f1 := x.f1 } else if p = 1 then { y with f2 := x.f2 } else if p = 2 then { y with f3 := x.f3 }
  else if p = 3 then { y with f4 := x.f4 } else if p = 4 then { y with f4 := x.f4 } else if p = 5 then { y with f5 := x.f5 }
  else if p = 6 then { y with f6 := ⟨x.f6.f0, y.f6.f1⟩ } else if p = 7 then { y with f6 := x.f6 } else y
theorem pieceP_enc (x y : S51) (p : Int) (h : okR x p) (r : List Int) : pieceP p y (encP x p ++ r) = some (setP x y p, r) := by
  unfold pieceP encP setP
  unfold okR at h
  by_cases h0 : p = 0
  · subst h0; simp only [if_true] at h ⊢; rw [upP_vint (by omega) (by omega)]; simp; omega
  rw [if_neg h0] at h ⊢; rw [if_neg h0, if_neg h0]
  by_cases h1 : p = 1
  · subst h1; simp only [if_true] at h ⊢; rw [upP_vint (by omega) (by omega)]; simp; omega
  rw [if_neg h1] at h ⊢; rw [if_neg h1, if_neg h1]
  by_cases h2 : p = 2
  · subst h2; simp only [if_true] at h ⊢; rw [upP_vint (by omega) (by omega)]; simp; omega
  rw [if_neg h2] at h ⊢; rw [if_neg h2, if_neg h2]
  by_cases h3 : p = 3
  · subst h3; simp only [if_true] at h ⊢; rw [upP_vint (by omega) (by omega)]; simp; omega
  rw [if_neg h3] at h ⊢; rw [if_neg h3, if_neg h3]
  by_cases h4 : p = 4
  · subst h4; simp only [if_true] at h ⊢; rw [numP_vint _ 0 r (by omega) (by rw [room0]; exact h) (by omega)]; simp [unzig_zig]
  rw [if_neg h4] at h ⊢; rw [if_neg h4, if_neg h4]
  by_cases h5 : p = 5
  · subst h5; simp only [if_true] at h ⊢; rw [slotsP_enc h]; simp
  rw [if_neg h5] at h ⊢; rw [if_neg h5, if_neg h5]
  by_cases h6 : p = 6
  · subst h6; simp only [if_true] at h ⊢; rw [upP_vint (by omega) (by omega)]; simp; omega
  rw [if_neg h6] at h ⊢; rw [if_neg h6, if_neg h6]
  by_cases h7 : p = 7
  · subst h7; simp only [if_true] at h ⊢; rw [List.append_assoc, upP_vint (by omega) (by omega)]
    show (upP 65536 (vint x.f6.f1.toNat ++ r)).map _ = _
    rw [upP_vint (by omega) (by omega)]
    simp only [Option.map_some, Int.toNat_of_nonneg h.1.1, Int.toNat_of_nonneg h.2.1]
  rw [if_neg h7, if_neg h7, if_neg h7]
  rfl

/-- Pieces that stand in different fields. -/
def nc (p q : Int) : Prop := p ≠ q ∧ ¬ (p = 3 ∧ q = 4) ∧ ¬ (p = 4 ∧ q = 3) ∧ ¬ (p = 6 ∧ q = 7) ∧ ¬ (p = 7 ∧ q = 6)
instance (p q : Int) : Decidable (nc p q) := by unfold nc; infer_instance
theorem pieceP_some (y : S51) (p : Int) (s : List Int) (hs : Bytes s) (x : S51) (r : List Int) (h : pieceP p y s = some (x, r)) : okR x p ∧ s = encP x p ++ r ∧ x.f0 = y.f0 ∧ ∀ q, nc p q → encP x q = encP y q := by
  unfold pieceP at h
  by_cases h0 : p = 0
  · subst h0; simp only [if_true] at h
    obtain ⟨⟨n, r1⟩, h1, h2⟩ := Option.map_eq_some_iff.mp h
    obtain ⟨rfl, rfl⟩ := Prod.mk.inj h2
    obtain ⟨g1, rfl⟩ := upP_some hs h1
    refine ⟨by unfold okR; simp only [if_true]; omega, by unfold encP; simp only [if_true]; congr 2; omega, rfl, fun q hq => ?_⟩
    have hq0 : ¬ q = 0 := fun e => hq.1 e.symm
    unfold encP; rw [if_neg hq0, if_neg hq0]
  rw [if_neg h0] at h
  by_cases h1 : p = 1
  · subst h1; simp only [if_true] at h
    obtain ⟨⟨n, r1⟩, h1, h2⟩ := Option.map_eq_some_iff.mp h
    obtain ⟨rfl, rfl⟩ := Prod.mk.inj h2
    obtain ⟨g1, rfl⟩ := upP_some hs h1
    refine ⟨by unfold okR; simp only [if_true]; simp; omega, by unfold encP; simp, rfl, fun q hq => ?_⟩
    have hq0 : ¬ q = 1 := fun e => hq.1 e.symm
    unfold encP; rw [if_neg hq0, if_neg hq0]
  rw [if_neg h1] at h
  by_cases h2 : p = 2
  · subst h2; simp only [if_true] at h
    obtain ⟨⟨n, r1⟩, h1, h2⟩ := Option.map_eq_some_iff.mp h
    obtain ⟨rfl, rfl⟩ := Prod.mk.inj h2
    obtain ⟨g1, rfl⟩ := upP_some hs h1
    refine ⟨by unfold okR; simp; omega, by unfold encP; simp, rfl, fun q hq => ?_⟩
    have hq0 : ¬ q = 2 := fun e => hq.1 e.symm
    unfold encP; rw [if_neg hq0, if_neg hq0]
  rw [if_neg h2] at h
  by_cases h3 : p = 3
  · subst h3; simp only [if_true] at h
    obtain ⟨⟨n, r1⟩, h1, h2⟩ := Option.map_eq_some_iff.mp h
    obtain ⟨rfl, rfl⟩ := Prod.mk.inj h2
    obtain ⟨g1, rfl⟩ := upP_some hs h1
    refine ⟨by unfold okR; simp; omega, by unfold encP; simp, rfl, fun q hq => ?_⟩
    have hq0 : ¬ q = 3 := fun e => hq.1 e.symm
    have hq1 : ¬ q = 4 := fun e => hq.2.1 ⟨rfl, e⟩
    unfold encP; rw [if_neg hq0, if_neg hq0, if_neg hq1, if_neg hq1]
  rw [if_neg h3] at h
  by_cases h4 : p = 4
  · subst h4; simp only [if_true] at h
    obtain ⟨⟨n, r1⟩, h1, h2⟩ := Option.map_eq_some_iff.mp h
    obtain ⟨rfl, rfl⟩ := Prod.mk.inj h2
    obtain ⟨g1, g2, -⟩ := numP_some s 0 hs (by omega) _ _ h1
    rw [room0] at g1
    refine ⟨by unfold okR; simp [zig_unzig]; exact g1, by unfold encP; simp [zig_unzig]; exact g2, rfl, fun q hq => ?_⟩
    have hq0 : ¬ q = 4 := fun e => hq.1 e.symm
    have hq1 : ¬ q = 3 := fun e => hq.2.2.1 ⟨rfl, e⟩
    unfold encP; rw [if_neg hq1, if_neg hq1, if_neg hq0, if_neg hq0]
  rw [if_neg h4] at h
  by_cases h5 : p = 5
  · subst h5; simp only [if_true] at h
    obtain ⟨⟨n, r1⟩, h1, h2⟩ := Option.map_eq_some_iff.mp h
    obtain ⟨rfl, rfl⟩ := Prod.mk.inj h2
    obtain ⟨g1, g2⟩ := slotsP_some hs h1
    refine ⟨by unfold okR; simp; exact g1, by unfold encP; simp; exact g2, rfl, fun q hq => ?_⟩
    have hq0 : ¬ q = 5 := fun e => hq.1 e.symm
    unfold encP; rw [if_neg hq0, if_neg hq0]
  rw [if_neg h5] at h
  by_cases h6 : p = 6
  · subst h6; simp only [if_true] at h
    obtain ⟨⟨n, r1⟩, h1, h2⟩ := Option.map_eq_some_iff.mp h
    obtain ⟨rfl, rfl⟩ := Prod.mk.inj h2
    obtain ⟨g1, rfl⟩ := upP_some hs h1
    refine ⟨by unfold okR; simp; omega, by unfold encP; simp, rfl, fun q hq => ?_⟩
    have hq0 : ¬ q = 6 := fun e => hq.1 e.symm
    have hq1 : ¬ q = 7 := fun e => hq.2.2.2.1 ⟨rfl, e⟩
    unfold encP; rw [if_neg hq0, if_neg hq0, if_neg hq1, if_neg hq1]
  rw [if_neg h6] at h
  by_cases h7 : p = 7
  · subst h7; simp only [if_true] at h
    obtain ⟨⟨n, r1⟩, h1, h2⟩ := Option.bind_eq_some_iff.mp h
    obtain ⟨⟨m, r2⟩, h3, h4⟩ := Option.map_eq_some_iff.mp h2
    obtain ⟨rfl, rfl⟩ := Prod.mk.inj h4
    obtain ⟨g1, rfl⟩ := upP_some hs h1
    obtain ⟨g2, g3⟩ := upP_some (bytes_tail hs) h3
    refine ⟨by unfold okR; simp; omega, by unfold encP; simp; exact g3, rfl, fun q hq => ?_⟩
    have hq0 : ¬ q = 7 := fun e => hq.1 e.symm
    have hq1 : ¬ q = 6 := fun e => hq.2.2.2.2 ⟨rfl, e⟩
    unfold encP; rw [if_neg hq1, if_neg hq1, if_neg hq0, if_neg hq0]
  rw [if_neg h7] at h
  obtain ⟨rfl, rfl⟩ := Prod.mk.inj (Option.some.inj h)
  refine ⟨by unfold okR; rw [if_neg h0, if_neg h1, if_neg h2, if_neg h3, if_neg h4, if_neg h5, if_neg h6, if_neg h7]; trivial, by unfold encP; rw [if_neg h0, if_neg h1, if_neg h2, if_neg h3, if_neg h4, if_neg h5, if_neg h6, if_neg h7]; rfl, rfl, fun _ _ => rfl⟩
def piecesP : List Int → S51 → List Int → Option (S51 × List Int)
  | [], x, s => some (x, s)
  | p :: ps, x, s => (pieceP p x s).bind fun q => piecesP ps q.1 q.2
theorem piecesP_some : ∀ (ps : List Int), ps.Pairwise nc → ∀ (y : S51) (s : List Int), Bytes s → ∀ x r, piecesP ps y s = some (x, r) → s = ps.flatMap (encP x) ++ r ∧ x.f0 = y.f0 ∧ (∀ q, (∀ p ∈ ps, nc p q) → encP x q = encP y q) := by
  intro ps
  induction ps with
  | nil =>
    intro _ y s hs x r h
    obtain ⟨rfl, rfl⟩ := Prod.mk.inj (Option.some.inj h)
    exact ⟨rfl, rfl, fun _ _ => rfl⟩
  | cons p ps ih =>
    intro hp y s hs x r h
    obtain ⟨hp1, hp2⟩ := List.pairwise_cons.1 hp
    obtain ⟨⟨x1, s1⟩, h1, h2⟩ := Option.bind_eq_some_iff.mp h
    obtain ⟨g1, rfl, g3, g4⟩ := pieceP_some y p s hs x1 s1 h1
    obtain ⟨k1, k2, k3⟩ := ih hp2 x1 s1 (bytes_tail hs) x r h2
    have hsym : ∀ q ∈ ps, nc q p := fun q hq => by
      have := hp1 q hq
      unfold nc at this ⊢
      omega
    refine ⟨?_, k2.trans g3, fun q hq => ?_⟩
    · rw [List.flatMap_cons, List.append_assoc, ← k1, k3 p hsym]
    · rw [k3 q (fun p' h => hq p' (by simp [h])), g4 q (hq p (by simp))]
theorem piecesP_enc (x : S51) : ∀ (ps : List Int) (y : S51) (r : List Int), (∀ p ∈ ps, okR x p) → piecesP ps y (ps.flatMap (encP x) ++ r) = some (ps.foldl (setP x) y, r) := by
  intro ps
  induction ps with
  | nil => intro y r _; rfl
  | cons p ps ih =>
    intro y r h
    rw [List.flatMap_cons, List.append_assoc]
    show (pieceP p y (encP x p ++ (ps.flatMap (encP x) ++ r))).bind _ = _
    rw [pieceP_enc x y p (h p (by simp))]
    exact ih _ r (fun q hq => h q (by simp [hq]))
theorem pw_ite {c : Prop} [Decidable c] {a b : List Int} (ha : a.Pairwise nc) (hb : b.Pairwise nc) : (if c then a else b).Pairwise nc := by split <;> assumption
theorem piecesL_nc (op : Int) : (piecesL op).Pairwise nc := by
  unfold piecesL
  repeat (first | decide | refine pw_ite (by decide) ?_)
def blankP (op : Int) : S51 := ⟨op, -1, -1, -1, 0, [], ⟨0, 0⟩⟩
def instP (s : List Int) : Option (S51 × List Int) := (upP 127 s).bind fun q => if piecesL q.1 = [] then none else piecesP (piecesL q.1) (blankP q.1) q.2
def encI (x : S51) : List Int := x.f0 :: (piecesL x.f0).flatMap (encP x)
theorem piecesL_op {op : Int} (h : piecesL op ≠ []) : 1 ≤ op ∧ op ≤ 30 := by
  unfold piecesL at h
  by_cases g : 1 ≤ op ∧ op ≤ 30
  · exact g
  · exfalso
    apply h
    repeat rw [if_neg (by omega)]
theorem instP_some {s : List Int} (hs : Bytes s) {x : S51} {r : List Int} (h : instP s = some (x, r)) : s = encI x ++ r := by
  obtain ⟨⟨op, s1⟩, h1, h2⟩ := Option.bind_eq_some_iff.mp h
  obtain ⟨g1, rfl⟩ := upP_some hs h1
  by_cases hp : piecesL (op : Int) = []
  · rw [if_pos hp] at h2; cases h2
  · rw [if_neg hp] at h2
    obtain ⟨k1, k2, -⟩ := piecesP_some _ (piecesL_nc op) _ s1 (bytes_tail hs) x r h2
    have hx : x.f0 = (op : Int) := k2
    unfold encI
    rw [hx, vint_small (by omega), k1]
    rfl
theorem instP_enc {x : S51} (hp : piecesL x.f0 ≠ []) (h : ∀ p ∈ piecesL x.f0, okR x p) (hc : (piecesL x.f0).foldl (setP x) (blankP x.f0) = x) (r : List Int) : instP (encI x ++ r) = some (x, r) := by
  have hop := piecesL_op hp
  obtain ⟨n, hn⟩ : ∃ n : Nat, x.f0 = n := ⟨x.f0.toNat, by omega⟩
  have e : encI x ++ r = vint n ++ ((piecesL x.f0).flatMap (encP x) ++ r) := by
    unfold encI
    rw [vint_small (by omega), hn]; rfl
  unfold instP
  rw [e, upP_vint (by omega) (by omega)]
  show (if piecesL (n : Int) = [] then none else piecesP (piecesL (n : Int)) (blankP (n : Int)) _) = _
  rw [← hn, if_neg hp, piecesP_enc x _ _ r h, hc]

/-! ### bodies -/
def instsP : Nat → List Int → Option (List S51 × List Int)
  | 0, s => some ([], s)
  | n + 1, s => (instP s).bind fun p => (instsP n p.2).bind fun q => some (p.1 :: q.1, q.2)
def bodyP (s : List Int) : Option (S47 × List Int) :=
  (slotsP s).bind fun a => (upP 4096 a.2).bind fun b => (upP 65536 b.2).bind fun c => (instsP c.1 c.2).bind fun d => some (⟨a.1, (b.1 : Int), d.1⟩, d.2)
def bodiesP : Nat → List Int → Option (List S47 × List Int)
  | 0, s => some ([], s)
  | n + 1, s => (bodyP s).bind fun p => (bodiesP n p.2).bind fun q => some (p.1 :: q.1, q.2)
def allP (s : List Int) : Option (List S47 × List Int) := (upP 32 s).bind fun p => bodiesP p.1 p.2
def encB (f : S47) : List Int := encS f.f0 ++ (vint f.f1.toNat ++ (vint f.f2.length ++ f.f2.flatMap encI))
def encA (l : List S47) : List Int := vint l.length ++ l.flatMap encB
theorem instsP_some : ∀ (n : Nat) (s : List Int), Bytes s → ∀ l r, instsP n s = some (l, r) → l.length = n ∧ s = l.flatMap encI ++ r := by
  intro n
  induction n with
  | zero =>
    intro s hs l r h
    obtain ⟨rfl, rfl⟩ := Prod.mk.inj (Option.some.inj h)
    exact ⟨rfl, rfl⟩
  | succ n ih =>
    intro s hs l r h
    obtain ⟨⟨x, s1⟩, h1, h2⟩ := Option.bind_eq_some_iff.mp h
    obtain ⟨⟨l1, r1⟩, h3, h4⟩ := Option.bind_eq_some_iff.mp h2
    obtain ⟨rfl, rfl⟩ := Prod.mk.inj (Option.some.inj h4)
    obtain rfl := instP_some hs h1
    obtain ⟨g1, g2⟩ := ih s1 (bytes_tail hs) l1 r1 h3
    exact ⟨by simp [g1], by rw [List.flatMap_cons, List.append_assoc, ← g2]⟩
theorem bodyP_some {s : List Int} (hs : Bytes s) {f : S47} {r : List Int} (h : bodyP s = some (f, r)) : s = encB f ++ r := by
  obtain ⟨⟨ps, s1⟩, h1, h⟩ := Option.bind_eq_some_iff.mp h
  obtain ⟨⟨sz, s2⟩, h2, h⟩ := Option.bind_eq_some_iff.mp h
  obtain ⟨⟨k, s3⟩, h3, h⟩ := Option.bind_eq_some_iff.mp h
  obtain ⟨⟨code, s4⟩, h4, h5⟩ := Option.bind_eq_some_iff.mp h
  obtain ⟨rfl, rfl⟩ := Prod.mk.inj (Option.some.inj h5)
  obtain ⟨-, e1⟩ := slotsP_some hs h1
  have b1 : Bytes s1 := bytes_tail (e1 ▸ hs)
  obtain ⟨-, e2⟩ := upP_some b1 h2
  have b2 : Bytes s2 := bytes_tail (e2 ▸ b1)
  obtain ⟨-, e3⟩ := upP_some b2 h3
  have b3 : Bytes s3 := bytes_tail (e3 ▸ b2)
  obtain ⟨g1, e4⟩ := instsP_some _ s3 b3 _ _ h4
  rw [e1]
  show encS ps ++ s1 = encB ⟨ps, (sz : Int), code⟩ ++ s4
  unfold encB
  rw [e2, e3, e4, g1]
  simp [List.append_assoc]
theorem bodiesP_some : ∀ (n : Nat) (s : List Int), Bytes s → ∀ l r, bodiesP n s = some (l, r) → l.length = n ∧ s = l.flatMap encB ++ r := by
  intro n
  induction n with
  | zero =>
    intro s hs l r h
    obtain ⟨rfl, rfl⟩ := Prod.mk.inj (Option.some.inj h)
    exact ⟨rfl, rfl⟩
  | succ n ih =>
    intro s hs l r h
    obtain ⟨⟨x, s1⟩, h1, h2⟩ := Option.bind_eq_some_iff.mp h
    obtain ⟨⟨l1, r1⟩, h3, h4⟩ := Option.bind_eq_some_iff.mp h2
    obtain ⟨rfl, rfl⟩ := Prod.mk.inj (Option.some.inj h4)
    obtain rfl := bodyP_some hs h1
    obtain ⟨g1, g2⟩ := ih s1 (bytes_tail hs) l1 r1 h3
    exact ⟨by simp [g1], by rw [List.flatMap_cons, List.append_assoc, ← g2]⟩
theorem allP_some {s : List Int} (hs : Bytes s) {l : List S47} {r : List Int} (h : allP s = some (l, r)) : s = encA l ++ r := by
  obtain ⟨⟨n, s1⟩, h1, h2⟩ := Option.bind_eq_some_iff.mp h
  obtain ⟨-, rfl⟩ := upP_some hs h1
  obtain ⟨g1, g2⟩ := bodiesP_some n s1 (bytes_tail hs) l r h2
  unfold encA
  rw [g1, List.append_assoc, ← g2]
/-- What may be written, and be read again. -/
structure GoodI (x : S51) : Prop where
  p : piecesL x.f0 ≠ []
  r : ∀ p ∈ piecesL x.f0, okR x p
  c : (piecesL x.f0).foldl (setP x) (blankP x.f0) = x
structure GoodB (f : S47) : Prop where
  s : SlotsOk f.f0
  z : 0 ≤ f.f1 ∧ f.f1 ≤ 4096
  n : f.f2.length ≤ 65536
  i : ∀ x ∈ f.f2, GoodI x
theorem instsP_enc : ∀ (l : List S51) (r : List Int), (∀ x ∈ l, GoodI x) → instsP l.length (l.flatMap encI ++ r) = some (l, r) := by
  intro l
  induction l with
  | nil => intro r _; rfl
  | cons x l ih =>
    intro r h
    have hx := h x (by simp)
    show (instP ((x :: l).flatMap encI ++ r)).bind _ = _
    rw [List.flatMap_cons, List.append_assoc, instP_enc hx.p hx.r hx.c]
    show (instsP l.length (l.flatMap encI ++ r)).bind _ = _
    rw [ih r (fun w hw => h w (by simp [hw]))]
    rfl
theorem bodyP_enc {f : S47} (h : GoodB f) (r : List Int) : bodyP (encB f ++ r) = some (f, r) := by
  unfold bodyP encB
  have hz := h.z
  rw [List.append_assoc, slotsP_enc h.s]
  show (upP 4096 ((vint f.f1.toNat ++ (vint f.f2.length ++ f.f2.flatMap encI)) ++ r)).bind _ = _
  rw [List.append_assoc, upP_vint (by omega) (by omega)]
  show (upP 65536 ((vint f.f2.length ++ f.f2.flatMap encI) ++ r)).bind _ = _
  rw [List.append_assoc, upP_vint h.n (by omega)]
  show (instsP f.f2.length (f.f2.flatMap encI ++ r)).bind _ = _
  rw [instsP_enc f.f2 r h.i]
  show some ((⟨f.f0, ((f.f1.toNat : Nat) : Int), f.f2⟩ : S47), r) = _
  rw [Int.toNat_of_nonneg hz.1]
theorem bodiesP_enc : ∀ (l : List S47) (r : List Int), (∀ x ∈ l, GoodB x) → bodiesP l.length (l.flatMap encB ++ r) = some (l, r) := by
  intro l
  induction l with
  | nil => intro r _; rfl
  | cons x l ih =>
    intro r h
    show (bodyP ((x :: l).flatMap encB ++ r)).bind _ = _
    rw [List.flatMap_cons, List.append_assoc, bodyP_enc (h x (by simp))]
    show (bodiesP l.length (l.flatMap encB ++ r)).bind _ = _
    rw [ih r (fun w hw => h w (by simp [hw]))]
    rfl
theorem allP_enc {l : List S47} (hl : l.length ≤ 32) (h : ∀ x ∈ l, GoodB x) (r : List Int) : allP (encA l ++ r) = some (l, r) := by
  unfold allP encA
  rw [List.append_assoc, upP_vint hl (by omega)]
  exact bodiesP_enc l r h

/-! ### what the check asks is enough -/
theorem told_set (x : S51) : ∀ (ps : List Int) (y : PCo.Told) (z : S51), z.f1 = y.d → z.f2 = y.a → z.f3 = y.b → z.f4 = y.n → (z.f5 = if y.l = true then x.f5 else []) → z.f6.f0 = y.t0 → z.f6.f1 = y.t1 →
    (ps.foldl (setP x) z).f0 = z.f0 ∧ (ps.foldl (setP x) z).f1 = (ps.foldl (toldP x.f1 x.f2 x.f3 x.f4 x.f6.f0 x.f6.f1) y).d ∧ (ps.foldl (setP x) z).f2 = (ps.foldl (toldP x.f1 x.f2 x.f3 x.f4 x.f6.f0 x.f6.f1) y).a ∧
    (ps.foldl (setP x) z).f3 = (ps.foldl (toldP x.f1 x.f2 x.f3 x.f4 x.f6.f0 x.f6.f1) y).b ∧ (ps.foldl (setP x) z).f4 = (ps.foldl (toldP x.f1 x.f2 x.f3 x.f4 x.f6.f0 x.f6.f1) y).n ∧
    ((ps.foldl (setP x) z).f5 = if (ps.foldl (toldP x.f1 x.f2 x.f3 x.f4 x.f6.f0 x.f6.f1) y).l = true then x.f5 else []) ∧
    (ps.foldl (setP x) z).f6.f0 = (ps.foldl (toldP x.f1 x.f2 x.f3 x.f4 x.f6.f0 x.f6.f1) y).t0 ∧ (ps.foldl (setP x) z).f6.f1 = (ps.foldl (toldP x.f1 x.f2 x.f3 x.f4 x.f6.f0 x.f6.f1) y).t1 := by
  intro ps
  induction ps with
  | nil => intro y z h1 h2 h3 h4 h5 h6 h7; exact ⟨rfl, h1, h2, h3, h4, h5, h6, h7⟩
  | cons p ps ih =>
    intro y z h1 h2 h3 h4 h5 h6 h7
    have e0 : (setP x z p).f0 = z.f0 := by unfold setP; repeat' (first | rfl | split)
    rw [List.foldl_cons, List.foldl_cons, ← e0]
    apply ih
    all_goals
      unfold setP toldP
      by_cases k0 : p = 0
      · simp [k0, *]
      by_cases k1 : p = 1
      · simp [k1, *]
      by_cases k2 : p = 2
      · simp [k2, *]
      by_cases k3 : p = 3
      · simp [k3, *]
      by_cases k4 : p = 4
      · simp [k4, *]
      by_cases k5 : p = 5
      · simp [k5, *]
      by_cases k6 : p = 6
      · simp [k6, *]
      by_cases k7 : p = 7
      · simp [k7, *]
      simp [k0, k1, k2, k3, k4, k5, k6, k7, *]
theorem good_inst {x : S51} {size n funcs : Int} (hsz : size ≤ 4096) (hn : n ≤ 65536) (hfu : funcs ≤ 32) (hw : zig x.f4 < 18446744073709551616) (h : instOf size n funcs x = true) : GoodI x := by
  unfold instOf instB at h
  simp only [Bool.and_eq_true, beq_iff_eq] at h
  obtain ⟨⟨hp, hall⟩, ⟨⟨⟨⟨⟨⟨c1, c2⟩, c3⟩, c4⟩, c5⟩, c6⟩, c7⟩⟩ := h
  have hne : piecesL x.f0 ≠ [] := by intro e; rw [e] at hp; simp at hp
  refine ⟨hne, fun p hp2 => ?_, ?_⟩
  · have hk := List.all_eq_true.mp hall p hp2
    unfold okP at hk
    unfold okR
    by_cases h0 : p = 0
    · subst h0; simp only [if_true] at hk ⊢
      unfold withinB at hk
      simp only [Bool.or_eq_true, Bool.and_eq_true, decide_eq_true_eq, beq_iff_eq] at hk
      omega
    rw [if_neg h0] at hk ⊢
    by_cases h1 : p = 1
    · subst h1; simp only [if_true] at hk ⊢
      by_cases ho : x.f0 = 21
      · rw [if_pos ho] at hk
        simp only [Bool.and_eq_true, decide_eq_true_eq] at hk
        omega
      · rw [if_neg ho] at hk
        unfold withinB at hk
        simp only [Bool.or_eq_true, Bool.and_eq_true, decide_eq_true_eq, beq_iff_eq] at hk
        omega
    rw [if_neg h1] at hk ⊢
    by_cases h2 : p = 2
    · subst h2; simp only [if_true] at hk ⊢
      unfold withinB at hk
      simp only [Bool.or_eq_true, Bool.and_eq_true, decide_eq_true_eq, beq_iff_eq] at hk
      omega
    rw [if_neg h2] at hk ⊢
    by_cases h3 : p = 3
    · subst h3; simp only [if_true] at hk ⊢
      simp only [Bool.and_eq_true, decide_eq_true_eq] at hk
      omega
    rw [if_neg h3] at hk ⊢
    by_cases h4 : p = 4
    · subst h4; simp only [if_true]; exact hw
    rw [if_neg h4] at hk ⊢
    by_cases h5 : p = 5
    · subst h5; simp only [if_true] at hk ⊢
      simp only [Bool.and_eq_true, decide_eq_true_eq, Bool.not_eq_true'] at hk
      refine ⟨hk.1, fun v hv => ?_⟩
      have := List.any_eq_false.mp hk.2 v hv
      unfold offB at this
      simp only [Bool.or_eq_true, decide_eq_true_eq] at this
      omega
    rw [if_neg h5] at hk ⊢
    by_cases h6 : p = 6
    · subst h6; simp only [if_true] at hk ⊢
      simp only [Bool.and_eq_true, decide_eq_true_eq] at hk
      omega
    rw [if_neg h6] at hk ⊢
    by_cases h7 : p = 7
    · subst h7; simp only [if_true] at hk ⊢
      simp only [Bool.and_eq_true, decide_eq_true_eq] at hk
      omega
    rw [if_neg h7]; trivial
  · obtain ⟨g0, g1, g2, g3, g4, g5, g6, g7⟩ := told_set x (piecesL x.f0) told0 (blankP x.f0) rfl rfl rfl rfl rfl rfl rfl
    rw [← c1] at g1
    rw [← c2] at g2
    rw [← c3] at g3
    rw [← c4] at g4
    rw [← c5] at g6
    rw [← c6] at g7
    have g8 : ((piecesL x.f0).foldl (setP x) (blankP x.f0)).f5 = x.f5 := by
      rw [g5]
      by_cases hl : ((piecesL x.f0).foldl (toldP x.f1 x.f2 x.f3 x.f4 x.f6.f0 x.f6.f1) told0).l = true
      · rw [if_pos hl]
      · rw [if_neg hl] at c7 ⊢
        exact (List.eq_nil_of_length_eq_zero (by simpa using c7)).symm
    generalize (piecesL x.f0).foldl (setP x) (blankP x.f0) = z at *
    obtain ⟨z0, z1, z2, z3, z4, z5, ⟨z6, z7⟩⟩ := z
    obtain ⟨x0, x1, x2, x3, x4, x5, ⟨x6, x7⟩⟩ := x
    simp only at g0 g1 g2 g3 g4 g6 g7 g8
    subst g1; subst g2; subst g3; subst g4; subst g6; subst g7; subst g8
    rw [show z0 = x0 from g0]
theorem good_body {f : S47} {funcs : Int} (hfu : funcs ≤ 32) (hw : ∀ x ∈ f.f2, zig x.f4 < 18446744073709551616) (h : bodyErr f funcs = 0) : GoodB f := by
  unfold bodyErr at h
  by_cases h1 : f.f1 < 1 ∨ f.f1 > 4096 ∨ (f.f0.length : Int) > 8 ∨ (f.f2.length : Int) > 65536
  · rw [if_pos h1] at h; cases h
  rw [if_neg h1] at h
  by_cases h2 : f.f2.length = 0 ∨ lastOp f.f2 < 26 ∨ lastOp f.f2 > 29
  · rw [if_pos h2] at h; cases h
  rw [if_neg h2] at h
  by_cases h3 : f.f0.any (offB f.f1) = true
  · rw [if_pos h3] at h; cases h
  rw [if_neg h3] at h
  by_cases h4 : f.f2.all (instOf f.f1 (f.f2.length : Int) funcs) = true
  · refine ⟨⟨by omega, fun v hv => ?_⟩, by omega, by omega, fun x hx => good_inst (by omega) (by omega) hfu (hw x hx) (List.all_eq_true.mp h4 x hx)⟩
    have := List.any_eq_false.mp (by simpa using h3) v hv
    unfold offB at this
    simp only [Bool.or_eq_true, decide_eq_true_eq] at this
    omega
  · rw [if_neg h4] at h; cases h
theorem good_from (funcs : Int) (hfu : funcs ≤ 32) : ∀ (l : List S47) (i : Nat), (∀ f ∈ l, ∀ x ∈ f.f2, zig x.f4 < 18446744073709551616) → (chkL funcs l i).1 = 0 → ∀ f ∈ l, GoodB f := by
  intro l
  induction l with
  | nil => intro i _ _ f hf; cases hf
  | cons f l ih =>
    intro i hw h g hg
    simp only [chkL] at h
    by_cases he : bodyErr f funcs = 0
    · rw [if_pos he] at h
      rcases List.mem_cons.1 hg with rfl | hg
      · exact good_body hfu (hw g (by simp)) he
      · exact ih (i + 1) (fun f hf => hw f (by simp [hf])) h g hg
    · rw [if_neg he] at h
      exact absurd h he
theorem good_all {l : List S47} (hw : ∀ f ∈ l, ∀ x ∈ f.f2, zig x.f4 < 18446744073709551616) (h : (chk l).1 = 0) : l.length ≤ 32 ∧ ∀ f ∈ l, GoodB f := by
  unfold chk at h
  by_cases hl : (l.length : Int) > 32
  · rw [if_pos hl] at h; cases h
  · rw [if_neg hl] at h
    exact ⟨by omega, good_from _ (by omega) l 0 hw h⟩
end Go.Proofs.Ytpjehipemljkpaa.CodeLaw
