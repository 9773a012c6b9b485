/- Which operation, and which type, a word tells is what the reference tells. -/
import Derived.Test.YtcpomchijogblaaPOpx8
import Derived.Test.YtcpomchijogblaaPureOpsApart
namespace Go.Proofs.Ytcpomchijogblaa.Pure
open Go.RowKit Go.Proofs.Ytcpomchijogblaa.POp Go.Proofs.YtcpomchijogblaaW.PrintWords Go.Proofs.YtcpomchijogblaaW.PrintLast Go.Proofs.YtcpomchijogblaaW.PrintMore Go.Proofs.Ytcpomchijogblaa.Str
set_option linter.unusedSimpArgs false
set_option linter.unusedVariables false

/-- The word of an operation and a type. -/
def wordB (op t : Nat) : List UInt8 := (opRows.getD op noRow).w.toList ++ (if typedB op = true then [46] ++ (letterB t).toList else [])

theorem ref_word : ∀ op : Nat, op < 30 → ∀ t : Nat, t < 4 → (turntableref05_Word.f (op : Int) 0 0 (t : Int) [] [] (⟨#[]⟩ : ByteArray) 0).map ByteArray.toList = some (wordB op t) := by decide +kernel
theorem ref_may : ∀ op : Nat, op < 30 → ∀ t : Nat, t < 4 → turntableref05_May.f (op : Int) (t : Int) = some (mayB op t) := by decide +kernel

def refTypes (s : ByteArray) (op : Nat) : Nat → Nat → Option (Int × Int)
  | 0, _ => none
  | d + 1, t => if mayB op t = true ∧ wordB op t = s.toList then some (op, t) else refTypes s op d (t + 1)
def refFrom (s : ByteArray) : Nat → Nat → Int × Int
  | 0, _ => (0, 0)
  | d + 1, op => match refTypes s op 4 0 with | some r => r | none => refFrom s d (op + 1)

theorem ref_l1 (s : ByteArray) (op : Nat) (ho : op < 30) (r : Int × Int) (hr : Ev (fun k => turntableref05_Find.l0 k s ((op + 1 : Nat) : Int)) r) :
    ∀ d t : Nat, t + d = 4 → Ev (fun k => turntableref05_Find.l1 k s (op : Int) (t : Int)) (match refTypes s op d t with | some q => q | none => r) := by
  intro d
  induction d with
  | zero =>
    intro t ht
    refine Ev.step (f := fun k => turntableref05_Find.l0 k s ((op + 1 : Nat) : Int)) (fun k => ?_) hr
    simp only [turntableref05_Find.l1]
    rw [if_neg (by omega), w64 (by omega) (by omega)]
    rfl
  | succ d ih =>
    intro t ht
    have hw := ref_word op ho t (by omega)
    obtain ⟨w, hw1, hw2⟩ := Option.map_eq_some_iff.1 hw
    have hm := ref_may op ho t (by omega)
    have hn := ih (t + 1) (by omega)
    have e1 : wrap64 ((t : Int) + 1) = ((t + 1 : Nat) : Int) := by rw [w64 (by omega) (by omega)]; rfl
    rw [refTypes]
    by_cases hmt : mayB op t = true
    · by_cases hs : wordB op t = s.toList
      · rw [if_pos ⟨hmt, hs⟩]
        refine Ev.step (f := fun _ => some ((op : Int), (t : Int))) (fun k => ?_) (Ev.now _)
        simp only [turntableref05_Find.l1]
        rw [if_pos (by omega), hm, hmt]
        simp only [Option.bind_some, if_true, hw1, hw2, if_pos hs]
      · rw [if_neg (fun e => hs e.2)]
        refine Ev.step (f := fun k => turntableref05_Find.l1 k s (op : Int) ((t + 1 : Nat) : Int)) (fun k => ?_) hn
        simp only [turntableref05_Find.l1]
        rw [if_pos (by omega), hm, hmt]
        simp only [Option.bind_some, if_true, hw1, hw2, if_neg hs, e1]
    · rw [if_neg (fun e => hmt e.1)]
      refine Ev.step (f := fun k => turntableref05_Find.l1 k s (op : Int) ((t + 1 : Nat) : Int)) (fun k => ?_) hn
      have hf : mayB op t = false := by simpa using hmt
      simp only [turntableref05_Find.l1]
      rw [if_pos (by omega), hm, hf, e1]
      rfl

theorem ref_l0 (s : ByteArray) : ∀ d op : Nat, op + d = 30 → Ev (fun k => turntableref05_Find.l0 k s (op : Int)) (refFrom s d op) := by
  intro d
  induction d with
  | zero =>
    intro op h
    exact Ev.step (f := fun _ => some (0, 0)) (fun k => by simp only [turntableref05_Find.l0]; rw [if_neg (by omega)]) (Ev.now _)
  | succ d ih =>
    intro op h
    refine Ev.step (f := fun k => turntableref05_Find.l1 k s (op : Int) ((0 : Nat) : Int)) (fun k => by simp only [turntableref05_Find.l0]; rw [if_pos (by omega)]; rfl) ?_
    exact ref_l1 s op (by omega) _ (ih (op + 1) (by omega)) 4 0 rfl

theorem word_typed {op t : Nat} (h : typedB op = true) : wordB op t = ((opRows.getD op noRow).w ++ (⟨#[46]⟩ : ByteArray) ++ letterB t).toList := by
  unfold wordB
  rw [if_pos h, toList_eq, toList_eq, toList_eq]
  simp
theorem word_plain {op t : Nat} (h : ¬ typedB op = true) : wordB op t = (opRows.getD op noRow).w.toList := by
  unfold wordB
  rw [if_neg h, List.append_nil]

theorem types_same (s : ByteArray) (op : Nat) (h : typedB op = true) : ∀ d t, typeFrom s (opRows.getD op noRow).w op d t = refTypes s op d t := by
  intro d
  induction d with
  | zero => intro t; rfl
  | succ d ih =>
    intro t
    rw [typeFrom, refTypes, ih, word_typed h]
    by_cases h1 : ((opRows.getD op noRow).w ++ (⟨#[46]⟩ : ByteArray) ++ letterB t).toList = s.toList <;> by_cases h2 : mayB op t = true <;> simp [h1, h2]

theorem few : ∀ op : Nat, op < 30 → 0 < op → (opRows.getD op noRow).w.toList.isEmpty = false ∧ (typedB op = false → mayB op 0 = true ∧ mayB op 1 = false ∧ mayB op 2 = false ∧ mayB op 3 = false) := by decide +kernel

theorem one_same (s : ByteArray) (op : Nat) (h0 : 0 < op) (h : op < 30) : findOne s (opRows.getD op noRow).w op = refTypes s op 4 0 := by
  obtain ⟨f1, f2⟩ := few op h h0
  unfold findOne
  rw [f1, if_neg (by simp)]
  by_cases ht : typedB op = true
  · rw [if_pos ht, types_same s op ht]
  · rw [if_neg ht]
    obtain ⟨m0, m1, m2, m3⟩ := f2 (by simpa using ht)
    simp only [refTypes, m0, m1, m2, m3, word_plain ht]
    by_cases hs : (opRows.getD op noRow).w.toList = s.toList <;> simp [hs]

theorem from_same (s : ByteArray) : ∀ d op, 0 < op → op + d = 30 → findFrom s d op = refFrom s d op := by
  intro d
  induction d with
  | zero => intro op _ _; rfl
  | succ d ih =>
    intro op h0 h
    rw [findFrom, refFrom, one_same s op h0 (by omega), ih (op + 1) (by omega) (by omega)]
    cases refTypes s op 4 0 <;> rfl

theorem find_same (s : ByteArray) : findFrom s 30 0 = refFrom s 29 1 := by
  rw [findFrom]
  have : findOne s (opRows.getD 0 noRow).w 0 = none := by unfold findOne; rw [if_pos (by decide +kernel)]
  rw [this]
  exact from_same s 29 1 (by omega) rfl

theorem words_full : ∀ op : Nat, op < 30 → 0 < op → ∀ t : Nat, t < 4 → wordB op t ≠ [] := by decide +kernel

theorem types_empty (s : ByteArray) (hs : s.toList = []) (op : Nat) (h0 : 0 < op) (h : op < 30) : ∀ d t, t + d = 4 → refTypes s op d t = none := by
  intro d
  induction d with
  | zero => intro t _; rfl
  | succ d ih =>
    intro t ht
    rw [refTypes, if_neg (fun e => words_full op h h0 t (by omega) (by rw [e.2, hs])), ih (t + 1) (by omega)]

theorem from_empty (s : ByteArray) (hs : s.toList = []) : ∀ d op, 0 < op → op + d = 30 → refFrom s d op = (0, 0) := by
  intro d
  induction d with
  | zero => intro op _ _; rfl
  | succ d ih =>
    intro op h0 h
    rw [refFrom, types_empty s hs op h0 (by omega) 4 0 rfl]
    exact ih (op + 1) (by omega) (by omega)

theorem ref_find (s : ByteArray) : Ev (fun k => turntableref05_Find.f k s) (findFrom s 30 0) := by
  unfold turntableref05_Find.f
  rw [find_same]
  refine ev_if (fun h => ?_) (fun h => ref_l0 s 29 1 rfl)
  rw [from_empty s h 29 1 (by omega) rfl]
  exact Ev.now _

theorem op_works_ev : Ev (fun k => turntablelaw05_works.f k) true := Ev.of (fun k => turntablelaw05_works.mono k) (k := 39) op_works

theorem OpsFinds : turntablelaw05_OpsFinds.Pure := by
  intro a0 _
  refine Ev.rounds ?_
  unfold turntablelaw05_OpsFinds.f
  refine ev_if (fun _ => Ev.bind (f := fun _ t => some t) op_works_ev (Ev.now _)) (fun _ => ?_)
  refine ev_some (show ops_Find.f a0 = some (findFrom a0 30 0) from rfl) ?_
  refine Ev.bind (f := fun k bt297 => if (findFrom a0 30 0).1 = bt297.1 then (if (findFrom a0 30 0).2 = bt297.2 then ((turntablelaw05_works.f k).bind fun t299 => some t299) else some false) else some false) (ref_find a0) ?_
  exact ev_pos rfl (ev_pos rfl (Ev.bind (f := fun _ t => some t) op_works_ev (Ev.now _)))
end Go.Proofs.Ytcpomchijogblaa.Pure
