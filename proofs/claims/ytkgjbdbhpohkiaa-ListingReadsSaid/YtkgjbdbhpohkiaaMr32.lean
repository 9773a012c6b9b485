import Derived.Test.YtkgjbdbhpohkiaaMr22
import Derived.Test.YtkgjbdbhpohkiaaMr31
import Derived.Test.YtkgjbdbhpohkiaaMr25
import Derived.Test.YtkgjbdbhpohkiaaMr16
import Derived.Test.YtkgjbdbhpohkiaaMr28
import Derived.Test.YtkgjbdbhpohkiaaMr17
import Derived.Test.YtkgjbdbhpohkiaaMr7
import Derived.Test.YtkgjbdbhpohkiaaMr30
import Derived.Test.YtkgjbdbhpohkiaaRows
import Derived.WalkKit
import Derived.ProofKit
import Derived.OpenShut
import Derived.ShutString
import Derived.ChangeOld
import Derived.Below
import Derived.SizedLaws
-- from YtkgjbdbhpohkiaaLiSplitR
section
namespace Go.Proofs.Ytkgjbdbhpohkiaa.LiSplit
open Go.RowKit Go.Proofs.YtkgjbdbhpohkiaaW.PrintWords Go.Proofs.YtkgjbdbhpohkiaaW.PrintLast Go.Proofs.YtkgjbdbhpohkiaaW.PrintMore Go.Proofs.Ytkgjbdbhpohkiaa.Str Go.Proofs.Ytkgjbdbhpohkiaa.PLi Go.Proofs.Ytkgjbdbhpohkiaa.CodeLaw
set_option linter.unusedSimpArgs false
set_option linter.unusedVariables false
theorem in_loop (c : Int) : ∀ (rest pre : List UInt8), (pre ++ rest).length ≤ 1000 → Ev (fun k => r02_in.l0 k c (mk (pre ++ rest)) (pre.length : Int)) (rest.any fun x => decide ((x.toNat : Int) = c)) := by
 intro rest
 induction rest with
 | nil =>
  intro pre _
  exact Ev.step (f := fun _ => some false) (fun k => by simp only [r02_in.l0]; rw [if_neg (by rw [mk_size]; simp)]) (Ev.now _)
 | cons d rest ih =>
  intro pre hl
  have hsz : (pre.length : Int) < ((mk (pre ++ d :: rest)).size : Int) := by rw [mk_size]; simp; omega
  refine Ev.step (f := fun k => if (d.toNat : Int) = c then some true else r02_in.l0 k c (mk (pre ++ d :: rest)) (wrap64 (pre.length + 1))) (fun k => by simp only [r02_in.l0]; rw [if_pos hsz, if_pos (by omega), bt_pre]) ?_
  rw [List.any_cons]
  by_cases h : (d.toNat : Int) = c
  ·rw [decide_eq_true h, Bool.true_or]
   exact ev_pos h (Ev.now _)
  ·rw [decide_eq_false h, Bool.false_or]
   refine ev_neg h ?_
   have hw : wrap64 ((pre.length : Int) + 1) = ((pre ++ [d]).length : Int) := by
    rw [w64 (by omega) (by simp at hl; omega)]; simp
   have hpre : pre ++ d :: rest = (pre ++ [d]) ++ rest := by simp
   rw [hw, hpre]
   exact ih (pre ++ [d]) (by rw [← hpre]; exact hl)
theorem in_ev (c : Int) (l : List UInt8) (hl : l.length ≤ 1000) (b : Bool) (hb : (l.any fun x => decide ((x.toNat : Int) = c)) = b) : Ev (fun k => r02_in.f k c (mk l)) b := by
 rw [← hb]
 exact in_loop c l [] hl
theorem blank_ev (c : Int) : Ev (fun k => r02_in.f k c (⟨#[32, 9, 10, 13]⟩ : ByteArray)) (decide (kindR c = 0)) := by
 refine in_ev c [32, 9, 10, 13] (by decide) _ ?_
 rw [Bool.eq_iff_iff, decide_eq_true_iff]
 simp only [List.any_cons, List.any_nil, Bool.or_false, Bool.or_eq_true, decide_eq_true_iff]
 unfold kindR
 constructor
 ·intro h
  rw [if_pos (by simp at h; omega)]
 ·intro h
  by_cases h1 : c = 32 ∨ c = 9 ∨ c = 10 ∨ c = 13
  ·simp; omega
  ·rw [if_neg h1] at h
   split at h
   ·omega
   ·split at h
    ·omega
    ·split at h
     ·omega
     ·split at h <;> omega
theorem sign_ev (c : Int) : Ev (fun k => r02_in.f k c (⟨#[40, 41, 123, 125, 61, 58]⟩ : ByteArray)) (decide (kindR c = 1)) := by
 refine in_ev c [40, 41, 123, 125, 61, 58] (by decide) _ ?_
 rw [Bool.eq_iff_iff, decide_eq_true_iff]
 simp only [List.any_cons, List.any_nil, Bool.or_false, Bool.or_eq_true, decide_eq_true_iff]
 unfold kindR
 constructor
 ·intro h
  rw [if_neg (by simp at h; omega), if_pos (by simp at h; omega)]
 ·intro h
  by_cases h1 : c = 32 ∨ c = 9 ∨ c = 10 ∨ c = 13
  ·rw [if_pos h1] at h
   omega
  ·rw [if_neg h1] at h
   by_cases h2 : c = 40 ∨ c = 41 ∨ c = 123 ∨ c = 125 ∨ c = 61 ∨ c = 58
   ·simp; omega
   ·rw [if_neg h2] at h
    split at h
    ·omega
    ·split at h
     ·omega
     ·split at h <;> omega
theorem kind2 (c : Int) : kindR c = 2 ↔ ((97 ≤ c ∧ c ≤ 122) ∨ (65 ≤ c ∧ c ≤ 90) ∨ (48 ≤ c ∧ c ≤ 57)) ∨ (c = 46 ∨ c = 37 ∨ c = 64 ∨ c = 45 ∨ c = 95) := by
 unfold kindR
 by_cases h1 : c = 32 ∨ c = 9 ∨ c = 10 ∨ c = 13
 ·rw [if_pos h1]; omega
 rw [if_neg h1]
 by_cases h2 : c = 40 ∨ c = 41 ∨ c = 123 ∨ c = 125 ∨ c = 61 ∨ c = 58
 ·rw [if_pos h2]; omega
 rw [if_neg h2]
 by_cases h3 : (97 ≤ c ∧ c ≤ 122) ∨ (65 ≤ c ∧ c ≤ 90) ∨ (48 ≤ c ∧ c ≤ 57)
 ·rw [if_pos h3]; exact ⟨fun _ => .inl h3, fun _ => rfl⟩
 rw [if_neg h3]
 by_cases h4 : c = 46 ∨ c = 37 ∨ c = 64 ∨ c = 45 ∨ c = 95
 ·rw [if_pos h4]; exact ⟨fun _ => .inr h4, fun _ => rfl⟩
 rw [if_neg h4]
 constructor
 ·intro h; split at h <;> omega
 ·intro h; rcases h with h | h
  ·exact absurd h h3
  ·exact absurd h h4
theorem letter_ev (c : Int) : Ev (fun k => r02_letter.f k c) (decide (kindR c = 2)) := by
 have hi : Ev (fun k => r02_in.f k c (⟨#[46, 37, 64, 45, 95]⟩ : ByteArray)) (decide (c = 46 ∨ c = 37 ∨ c = 64 ∨ c = 45 ∨ c = 95)) := by
  refine in_ev c [46, 37, 64, 45, 95] (by decide) _ ?_
  rw [Bool.eq_iff_iff, decide_eq_true_iff]
  simp only [List.any_cons, List.any_nil, Bool.or_false, Bool.or_eq_true, decide_eq_true_iff]
  simp
  omega
 have hk := kind2 c
 have yes : (97 ≤ c ∧ c ≤ 122) ∨ (65 ≤ c ∧ c ≤ 90) ∨ (48 ≤ c ∧ c ≤ 57) → Ev (fun _ => some true) (decide (kindR c = 2)) := fun h => by
  rw [decide_eq_true (hk.2 (.inl h))]; exact Ev.now _
 have no : ¬ ((97 ≤ c ∧ c ≤ 122) ∨ (65 ≤ c ∧ c ≤ 90) ∨ (48 ≤ c ∧ c ≤ 57)) → Ev (fun k => (r02_in.f k c (⟨#[46, 37, 64, 45, 95]⟩ : ByteArray)).bind fun t => some t) (decide (kindR c = 2)) := fun h => by
  have e : decide (kindR c = 2) = decide (c = 46 ∨ c = 37 ∨ c = 64 ∨ c = 45 ∨ c = 95) := decide_eq_decide.2 ⟨fun k => (hk.1 k).resolve_left h, fun k => hk.2 (.inr k)⟩
  rw [e]
  exact ev_bind' hi (Ev.now _)
 unfold r02_letter.f
 refine ev_if (fun h1 => ev_if (fun h2 => yes (by omega)) (fun h2 => ?_)) (fun h1 => ?_)
 ·refine ev_if (fun h3 => ev_if (fun h4 => yes (by omega)) (fun h4 => ?_)) (fun h3 => ?_)
  ·exact ev_if (fun h5 => ev_if (fun h6 => yes (by omega)) (fun h6 => no (by omega))) (fun h5 => no (by omega))
  ·exact ev_if (fun h5 => ev_if (fun h6 => yes (by omega)) (fun h6 => no (by omega))) (fun h5 => no (by omega))
 ·refine ev_if (fun h3 => ev_if (fun h4 => yes (by omega)) (fun h4 => ?_)) (fun h3 => ?_)
  ·exact ev_if (fun h5 => ev_if (fun h6 => yes (by omega)) (fun h6 => no (by omega))) (fun h5 => no (by omega))
  ·exact ev_if (fun h5 => ev_if (fun h6 => yes (by omega)) (fun h6 => no (by omega))) (fun h5 => no (by omega))
theorem ev_whenB {α : Type} {t : Prop} [Decidable t] {g : Nat → Option Bool} {f h : Nat → Option α} {r : α} (e : Ev g (decide t)) (yes : t → Ev f r) (no : ¬ t → Ev h r) : Ev (fun k => (g k).bind fun b => if b = true then f k else h k) r := by
 refine ev_bind' (f := fun k b => if b = true then f k else h k) e ?_
 by_cases ht : t
 ·rw [decide_eq_true ht]
  exact ev_pos (c := (true = true)) rfl (yes ht)
 ·rw [decide_eq_false ht]
  exact ev_neg (c := (false = true)) (by decide) (no ht)
theorem bt_drop (a : ByteArray) (i : Nat) (c : UInt8) (l : List UInt8) (h : a.data.toList.drop i = c :: l) : bt a (i : Int) = (c.toNat : Int) ∧ i < a.size ∧ a.data.toList.drop (i + 1) = l := by
 have hi : i < a.data.toList.length := by
  by_cases hi : i < a.data.toList.length
  ·exact hi
  ·rw [List.drop_eq_nil_of_le (by omega)] at h; cases h
 have h2 := List.drop_eq_getElem_cons hi
 rw [h] at h2
 injection h2 with h3 h4
 refine ⟨?_, by rw [size_data]; exact hi, h4.symm⟩
 rw [show bt a (i : Int) = bt (mk a.data.toList) (i : Int) from congrArg (fun s => bt s (i : Int)) (mk_data a), bt_mk _ i hi, h3]
theorem split_words (a : ByteArray) (hs : a.size ≤ 65536) : ∀ (l : List UInt8) (i : Nat) (out : List Tok), a.data.toList.drop i = l → i ≤ a.size → out.length ≤ i →
  Ev (fun k => r02_Split.l0 k a out (i : Int)) (splitGo a l i (-1) false out) ∧
  Ev (fun k => r02_Split.l1 k a out (i : Int)) (splitGo a l i (-1) true out) ∧
  ∀ fr : Nat, fr < i → out.length ≤ fr → Ev (fun k => r02_Split.l2 k a out (fr : Int) (i : Int)) (splitGo a l i (fr : Int) false out) := by
 intro l
 induction l with
 | nil =>
  intro i out hd hi ho
  have hn : i = a.size := by
   have := List.drop_eq_nil_iff.1 hd
   rw [← size_data] at this
   omega
  have hlt : ¬ ((i : Int) < (a.size : Int)) := by omega
  have h0 : ∀ o : List Tok, Ev (fun k => r02_Split.l0 k a o (i : Int)) (o, 0, 0) := fun o => Ev.step (f := fun _ => some (o, 0, 0)) (fun k => by simp only [r02_Split.l0]; rw [if_neg hlt]) (Ev.now _)
  refine ⟨h0 out, Ev.step (f := fun k => r02_Split.l0 k a out (i : Int)) (fun k => by simp only [r02_Split.l1]; rw [if_neg hlt]) (h0 out), fun fr hf ho2 => ?_⟩
  refine Ev.step (f := fun k => r02_Split.l0 k a (out ++ [⟨a.extract (fr : Int).toNat (i : Int).toNat, fr⟩]) (i : Int)) (fun k => by simp only [r02_Split.l2]; rw [if_neg hlt, if_pos (by omega), if_pos (by omega), if_pos (by omega), if_pos (by omega)]) ?_
  have e : splitGo a [] i (fr : Int) false out = (out ++ [⟨a.extract (fr : Int).toNat (i : Int).toNat, fr⟩], 0, 0) := by
   show (closeW a fr i out, (0 : Int), (0 : Int)) = _
   unfold closeW
   rw [if_neg (by omega)]
   rfl
  rw [e]
  exact h0 _
 | cons c l ih =>
  intro i out hd hi ho
  obtain ⟨hb, hlt, hd2⟩ := bt_drop a i c l hd
  have hlt' : (i : Int) < (a.size : Int) := by omega
  have hw : wrap64 ((i : Int) + 1) = ((i + 1 : Nat) : Int) := by rw [w64 (by omega) (by omega)]; omega
  have P0 : ∀ o : List Tok, o.length ≤ i → Ev (fun k => r02_Split.l0 k a o (i : Int)) (splitGo a (c :: l) i (-1) false o) := by
   intro o ho
   have hc : ∀ o' : List Tok, closeW a (-1) i o' = o' := fun o' => by unfold closeW; rw [if_pos (by omega)]
   refine Ev.step (f := fun k => (r02_in.f k (c.toNat : Int) (⟨#[32, 9, 10, 13]⟩ : ByteArray)).bind fun t => if t = true then r02_Split.l0 k a o ((i + 1 : Nat) : Int) else if (c.toNat : Int) = 35 then r02_Split.l1 k a o (i : Int) else (r02_in.f k (c.toNat : Int) (⟨#[40, 41, 123, 125, 61, 58]⟩ : ByteArray)).bind fun t => if t = true then r02_Split.l0 k a (o ++ [⟨a.extract (i : Int).toNat ((i + 1 : Nat) : Int).toNat, i⟩]) ((i + 1 : Nat) : Int) else (r02_letter.f k (c.toNat : Int)).bind fun t => if t = true then r02_Split.l2 k a o (i : Int) (i : Int) else some ([], 1, (i : Int))) (fun k => by simp only [r02_Split.l0]; rw [if_pos hlt', if_pos (by omega), hb, hw, if_pos (show (i : Int) ≤ ((i + 1 : Nat) : Int) by omega), if_pos (show ((i + 1 : Nat) : Int) ≤ (a.size : Int) by omega), if_pos (show o.length < 5864062014805 by omega)]) ?_
   refine ev_whenB (blank_ev _) (fun h => ?_) (fun h => ?_)
   ·have e : splitGo a (c :: l) i (-1) false o = splitGo a l (i + 1) (-1) false o := by rw [splitGo, if_neg (by decide), if_pos h, hc]
    rw [e]
    exact (ih (i + 1) o hd2 (by omega) (by omega)).1
   ·refine ev_if (fun h35 => ?_) (fun h35 => ?_)
    ·have e : splitGo a (c :: l) i (-1) false o = splitGo a l (i + 1) (-1) true o := by
      rw [splitGo, if_neg (by decide), if_neg h, h35, if_neg (by decide), if_neg (by decide), if_pos (by decide), hc]
     rw [e]
     refine Ev.step (f := fun k => r02_Split.l1 k a o ((i + 1 : Nat) : Int)) (fun k => by simp only [r02_Split.l1]; rw [if_pos hlt', if_pos (by omega), hb, hw, if_neg (by omega)]) ?_
     exact (ih (i + 1) o hd2 (by omega) (by omega)).2.1
    ·refine ev_whenB (sign_ev _) (fun h1 => ?_) (fun h1 => ?_)
     ·have e : splitGo a (c :: l) i (-1) false o = splitGo a l (i + 1) (-1) false (o ++ [⟨a.extract (i : Int).toNat ((i + 1 : Nat) : Int).toNat, i⟩]) := by
       rw [splitGo, if_neg (by decide), if_neg h, if_pos h1, hc]
       rw [← ext_one a i c l hd]
       rfl
      rw [e]
      exact (ih (i + 1) _ hd2 (by omega) (by simp; omega)).1
     ·refine ev_whenB (letter_ev _) (fun h2 => ?_) (fun h2 => ?_)
      ·have e : splitGo a (c :: l) i (-1) false o = splitGo a l (i + 1) (i : Int) false o := by
        rw [splitGo, if_neg (by decide), if_neg h, if_neg h1, if_pos h2, if_pos (by decide)]
       rw [e]
       refine Ev.step (f := fun k => (r02_letter.f k (c.toNat : Int)).bind fun t => if t = true then r02_Split.l2 k a o (i : Int) ((i + 1 : Nat) : Int) else r02_Split.l0 k a (o ++ [⟨a.extract (i : Int).toNat (i : Int).toNat, i⟩]) (i : Int)) (fun k => by simp only [r02_Split.l2]; rw [if_pos hlt', if_pos (by omega), hb, hw, if_pos (by omega), if_pos (by omega), if_pos (by omega), if_pos (by omega)]) ?_
       exact ev_whenB (letter_ev _) (fun _ => (ih (i + 1) o hd2 (by omega) (by omega)).2.2 i (by omega) ho) (fun h3 => absurd h2 h3)
      ·have e : splitGo a (c :: l) i (-1) false o = ([], 1, (i : Int)) := by
        have h3 : ¬ kindR (c.toNat : Int) = 3 := by
         unfold kindR
         intro h3
         split at h3
         ·omega
         ·split at h3
          ·omega
          ·split at h3
           ·omega
           ·split at h3
            ·omega
            ·first | omega | (split at h3 <;> omega)
        rw [splitGo, if_neg (by decide), if_neg h, if_neg h1, if_neg h2, if_neg h3]
       rw [e]
       exact Ev.now _
  refine ⟨P0 out ho, ?_, fun fr hf ho2 => ?_⟩
  ·refine Ev.step (f := fun k => if (c.toNat : Int) = 10 then r02_Split.l0 k a out (i : Int) else r02_Split.l1 k a out ((i + 1 : Nat) : Int)) (fun k => by simp only [r02_Split.l1]; rw [if_pos hlt', if_pos (by omega), hb, hw]) ?_
   refine ev_if (fun h => ?_) (fun h => ?_)
   ·have e : splitGo a (c :: l) i (-1) true out = splitGo a (c :: l) i (-1) false out := by
     rw [splitGo, if_pos rfl, splitGo, if_neg (by decide), h, if_pos (by decide)]
     rfl
    rw [e]
    exact P0 out ho
   ·have e : splitGo a (c :: l) i (-1) true out = splitGo a l (i + 1) (-1) true out := by
     rw [splitGo, if_pos rfl, show ((c.toNat : Int) != 10) = true from by rw [bne_iff_ne]; exact h]
    rw [e]
    exact (ih (i + 1) out hd2 (by omega) (by omega)).2.1
  ·refine Ev.step (f := fun k => (r02_letter.f k (c.toNat : Int)).bind fun t => if t = true then r02_Split.l2 k a out (fr : Int) ((i + 1 : Nat) : Int) else r02_Split.l0 k a (out ++ [⟨a.extract (fr : Int).toNat (i : Int).toNat, fr⟩]) (i : Int)) (fun k => by simp only [r02_Split.l2]; rw [if_pos hlt', if_pos (by omega), hb, hw, if_pos (by omega), if_pos (by omega), if_pos (by omega), if_pos (by omega)]) ?_
   refine ev_whenB (letter_ev _) (fun h2 => ?_) (fun h2 => ?_)
   ·have e : splitGo a (c :: l) i (fr : Int) false out = splitGo a l (i + 1) (fr : Int) false out := by
     rw [splitGo, if_neg (by decide), if_neg (by omega), if_neg (by omega), if_pos h2, if_neg (by omega)]
    rw [e]
    exact (ih (i + 1) out hd2 (by omega) (by omega)).2.2 fr (by omega) ho2
   ·have e : splitGo a (c :: l) i (fr : Int) false out = splitGo a (c :: l) i (-1) false (out ++ [⟨a.extract (fr : Int).toNat (i : Int).toNat, fr⟩]) := by
     have h1 : closeW a (fr : Int) i out = out ++ [⟨a.extract (fr : Int).toNat (i : Int).toNat, fr⟩] := by unfold closeW; rw [if_neg (by omega)]; rfl
     have h3 : ∀ o' : List Tok, closeW a (-1) i o' = o' := fun o' => by unfold closeW; rw [if_pos (by omega)]
     simp only [splitGo, Bool.false_eq_true, if_false, h1, h3, if_neg h2]
    rw [e]
    exact P0 _ (by simp; omega)
theorem ref_split (a : ByteArray) : Ev (fun k => r02_Split.f k a) (splitL a) := by
 unfold r02_Split.f splitL
 by_cases h : 65536 < a.size
 ·rw [if_pos h]
  exact ev_pos (by omega) (Ev.now _)
 ·rw [if_neg h]
  exact ev_neg (by omega) (split_words a (by omega) a.data.toList 0 [] rfl (Nat.zero_le _) (Nat.le_refl _)).1
end Go.Proofs.Ytkgjbdbhpohkiaa.LiSplit
end
-- from YtkgjbdbhpohkiaaLiCode
section
namespace Go.Proofs.Ytkgjbdbhpohkiaa.CodeLaw
open Go.RowKit Go.Proofs.Ytkgjbdbhpohkiaa.PLi Go.Proofs.YtkgjbdbhpohkiaaW.PrintWords Go.Proofs.YtkgjbdbhpohkiaaW.PrintLast Go.Proofs.YtkgjbdbhpohkiaaW.PrintMore Go.Proofs.Ytkgjbdbhpohkiaa.Str
set_option linter.unusedSimpArgs false
set_option linter.unusedVariables false
section
variable (l : List S33) (hl : l.length ≤ 140737488351232) (hp : ∀ f ∈ l, f.f0.length ≤ 140737488351232) (hb : ∀ f ∈ l, f.f2.length ≤ 140737488351232) (ha : ∀ f ∈ l, ∀ x ∈ f.f2, x.f5.length ≤ 140737488351232)
include hl hp hb ha
end
theorem ev_eq {α : Type} {g : Nat → Option α} {r r' : α} (h : r' = r) (k : Ev g r') : Ev g r := h ▸ k
theorem bool_ext {x y : Bool} (h : x = true ↔ y = true) : x = y := by cases x <;> cases y <;> simp_all
theorem refB_1 (d a b nn : Int) (l : List Int) (t0 t1 size n funcs : Int) : refB 1 d a b nn l t0 t1 size n funcs = instB 1 d a b nn l t0 t1 size n funcs := by
 unfold refB instB
 rw [show piecesS 1 = (⟨#[100, 119]⟩ : ByteArray) by decide, show piecesL 1 = [0, 4] by decide]
 simp only [hasC, toList_eq]
 cases h : l.any (offB size)
 all_goals
  apply bool_ext
  simp [okP, toldP, told0, withinB, emptyB, slotB, placeB, allB, h]
  try simp only [← List.length_eq_zero_iff]
  try omega
theorem refB_2 (d a b nn : Int) (l : List Int) (t0 t1 size n funcs : Int) : refB 2 d a b nn l t0 t1 size n funcs = instB 2 d a b nn l t0 t1 size n funcs := by
 unfold refB instB
 rw [show piecesS 2 = (⟨#[100, 97, 98]⟩ : ByteArray) by decide, show piecesL 2 = [0, 1, 2] by decide]
 simp only [hasC, toList_eq]
 cases h : l.any (offB size)
 all_goals
  apply bool_ext
  simp [okP, toldP, told0, withinB, emptyB, slotB, placeB, allB, h]
  try simp only [← List.length_eq_zero_iff]
  try omega
theorem refB_3 (d a b nn : Int) (l : List Int) (t0 t1 size n funcs : Int) : refB 3 d a b nn l t0 t1 size n funcs = instB 3 d a b nn l t0 t1 size n funcs := by
 unfold refB instB
 rw [show piecesS 3 = (⟨#[100, 97, 98]⟩ : ByteArray) by decide, show piecesL 3 = [0, 1, 2] by decide]
 simp only [hasC, toList_eq]
 cases h : l.any (offB size)
 all_goals
  apply bool_ext
  simp [okP, toldP, told0, withinB, emptyB, slotB, placeB, allB, h]
  try simp only [← List.length_eq_zero_iff]
  try omega
theorem refB_4 (d a b nn : Int) (l : List Int) (t0 t1 size n funcs : Int) : refB 4 d a b nn l t0 t1 size n funcs = instB 4 d a b nn l t0 t1 size n funcs := by
 unfold refB instB
 rw [show piecesS 4 = (⟨#[100, 97, 98]⟩ : ByteArray) by decide, show piecesL 4 = [0, 1, 2] by decide]
 simp only [hasC, toList_eq]
 cases h : l.any (offB size)
 all_goals
  apply bool_ext
  simp [okP, toldP, told0, withinB, emptyB, slotB, placeB, allB, h]
  try simp only [← List.length_eq_zero_iff]
  try omega
theorem refB_5 (d a b nn : Int) (l : List Int) (t0 t1 size n funcs : Int) : refB 5 d a b nn l t0 t1 size n funcs = instB 5 d a b nn l t0 t1 size n funcs := by
 unfold refB instB
 rw [show piecesS 5 = (⟨#[100, 97, 98]⟩ : ByteArray) by decide, show piecesL 5 = [0, 1, 2] by decide]
 simp only [hasC, toList_eq]
 cases h : l.any (offB size)
 all_goals
  apply bool_ext
  simp [okP, toldP, told0, withinB, emptyB, slotB, placeB, allB, h]
  try simp only [← List.length_eq_zero_iff]
  try omega
theorem refB_6 (d a b nn : Int) (l : List Int) (t0 t1 size n funcs : Int) : refB 6 d a b nn l t0 t1 size n funcs = instB 6 d a b nn l t0 t1 size n funcs := by
 unfold refB instB
 rw [show piecesS 6 = (⟨#[100, 97, 98]⟩ : ByteArray) by decide, show piecesL 6 = [0, 1, 2] by decide]
 simp only [hasC, toList_eq]
 cases h : l.any (offB size)
 all_goals
  apply bool_ext
  simp [okP, toldP, told0, withinB, emptyB, slotB, placeB, allB, h]
  try simp only [← List.length_eq_zero_iff]
  try omega
theorem refB_7 (d a b nn : Int) (l : List Int) (t0 t1 size n funcs : Int) : refB 7 d a b nn l t0 t1 size n funcs = instB 7 d a b nn l t0 t1 size n funcs := by
 unfold refB instB
 rw [show piecesS 7 = (⟨#[100, 97, 98]⟩ : ByteArray) by decide, show piecesL 7 = [0, 1, 2] by decide]
 simp only [hasC, toList_eq]
 cases h : l.any (offB size)
 all_goals
  apply bool_ext
  simp [okP, toldP, told0, withinB, emptyB, slotB, placeB, allB, h]
  try simp only [← List.length_eq_zero_iff]
  try omega
theorem refB_9 (d a b nn : Int) (l : List Int) (t0 t1 size n funcs : Int) : refB 9 d a b nn l t0 t1 size n funcs = instB 9 d a b nn l t0 t1 size n funcs := by
 unfold refB instB
 rw [show piecesS 9 = (⟨#[100, 97, 98]⟩ : ByteArray) by decide, show piecesL 9 = [0, 1, 2] by decide]
 simp only [hasC, toList_eq]
 cases h : l.any (offB size)
 all_goals
  apply bool_ext
  simp [okP, toldP, told0, withinB, emptyB, slotB, placeB, allB, h]
  try simp only [← List.length_eq_zero_iff]
  try omega
theorem refB_8 (d a b nn : Int) (l : List Int) (t0 t1 size n funcs : Int) : refB 8 d a b nn l t0 t1 size n funcs = instB 8 d a b nn l t0 t1 size n funcs := by
 unfold refB instB
 rw [show piecesS 8 = (⟨#[100]⟩ : ByteArray) by decide, show piecesL 8 = [0] by decide]
 simp only [hasC, toList_eq]
 cases h : l.any (offB size)
 all_goals
  apply bool_ext
  simp [okP, toldP, told0, withinB, emptyB, slotB, placeB, allB, h]
  try simp only [← List.length_eq_zero_iff]
  try omega
theorem refB_10 (d a b nn : Int) (l : List Int) (t0 t1 size n funcs : Int) : refB 10 d a b nn l t0 t1 size n funcs = instB 10 d a b nn l t0 t1 size n funcs := by
 unfold refB instB
 rw [show piecesS 10 = (⟨#[100, 115]⟩ : ByteArray) by decide, show piecesL 10 = [0, 3] by decide]
 simp only [hasC, toList_eq]
 cases h : l.any (offB size)
 all_goals
  apply bool_ext
  simp [okP, toldP, told0, withinB, emptyB, slotB, placeB, allB, h]
  try simp only [← List.length_eq_zero_iff]
  try omega
theorem refB_11 (d a b nn : Int) (l : List Int) (t0 t1 size n funcs : Int) : refB 11 d a b nn l t0 t1 size n funcs = instB 11 d a b nn l t0 t1 size n funcs := by
 unfold refB instB
 rw [show piecesS 11 = (⟨#[100, 97, 115]⟩ : ByteArray) by decide, show piecesL 11 = [0, 1, 3] by decide]
 simp only [hasC, toList_eq]
 cases h : l.any (offB size)
 all_goals
  apply bool_ext
  simp [okP, toldP, told0, withinB, emptyB, slotB, placeB, allB, h]
  try simp only [← List.length_eq_zero_iff]
  try omega
theorem refB_12 (d a b nn : Int) (l : List Int) (t0 t1 size n funcs : Int) : refB 12 d a b nn l t0 t1 size n funcs = instB 12 d a b nn l t0 t1 size n funcs := by
 unfold refB instB
 rw [show piecesS 12 = (⟨#[100, 97, 115]⟩ : ByteArray) by decide, show piecesL 12 = [0, 1, 3] by decide]
 simp only [hasC, toList_eq]
 cases h : l.any (offB size)
 all_goals
  apply bool_ext
  simp [okP, toldP, told0, withinB, emptyB, slotB, placeB, allB, h]
  try simp only [← List.length_eq_zero_iff]
  try omega
theorem refB_15 (d a b nn : Int) (l : List Int) (t0 t1 size n funcs : Int) : refB 15 d a b nn l t0 t1 size n funcs = instB 15 d a b nn l t0 t1 size n funcs := by
 unfold refB instB
 rw [show piecesS 15 = (⟨#[100, 97, 115]⟩ : ByteArray) by decide, show piecesL 15 = [0, 1, 3] by decide]
 simp only [hasC, toList_eq]
 cases h : l.any (offB size)
 all_goals
  apply bool_ext
  simp [okP, toldP, told0, withinB, emptyB, slotB, placeB, allB, h]
  try simp only [← List.length_eq_zero_iff]
  try omega
theorem refB_13 (d a b nn : Int) (l : List Int) (t0 t1 size n funcs : Int) : refB 13 d a b nn l t0 t1 size n funcs = instB 13 d a b nn l t0 t1 size n funcs := by
 unfold refB instB
 rw [show piecesS 13 = (⟨#[97, 98, 115]⟩ : ByteArray) by decide, show piecesL 13 = [1, 2, 3] by decide]
 simp only [hasC, toList_eq]
 cases h : l.any (offB size)
 all_goals
  apply bool_ext
  simp [okP, toldP, told0, withinB, emptyB, slotB, placeB, allB, h]
  try simp only [← List.length_eq_zero_iff]
  try omega
theorem refB_14 (d a b nn : Int) (l : List Int) (t0 t1 size n funcs : Int) : refB 14 d a b nn l t0 t1 size n funcs = instB 14 d a b nn l t0 t1 size n funcs := by
 unfold refB instB
 rw [show piecesS 14 = (⟨#[97, 98, 115]⟩ : ByteArray) by decide, show piecesL 14 = [1, 2, 3] by decide]
 simp only [hasC, toList_eq]
 cases h : l.any (offB size)
 all_goals
  apply bool_ext
  simp [okP, toldP, told0, withinB, emptyB, slotB, placeB, allB, h]
  try simp only [← List.length_eq_zero_iff]
  try omega
theorem refB_16 (d a b nn : Int) (l : List Int) (t0 t1 size n funcs : Int) : refB 16 d a b nn l t0 t1 size n funcs = instB 16 d a b nn l t0 t1 size n funcs := by
 unfold refB instB
 rw [show piecesS 16 = (⟨#[100, 97]⟩ : ByteArray) by decide, show piecesL 16 = [0, 1] by decide]
 simp only [hasC, toList_eq]
 cases h : l.any (offB size)
 all_goals
  apply bool_ext
  simp [okP, toldP, told0, withinB, emptyB, slotB, placeB, allB, h]
  try simp only [← List.length_eq_zero_iff]
  try omega
theorem refB_17 (d a b nn : Int) (l : List Int) (t0 t1 size n funcs : Int) : refB 17 d a b nn l t0 t1 size n funcs = instB 17 d a b nn l t0 t1 size n funcs := by
 unfold refB instB
 rw [show piecesS 17 = (⟨#[100, 97]⟩ : ByteArray) by decide, show piecesL 17 = [0, 1] by decide]
 simp only [hasC, toList_eq]
 cases h : l.any (offB size)
 all_goals
  apply bool_ext
  simp [okP, toldP, told0, withinB, emptyB, slotB, placeB, allB, h]
  try simp only [← List.length_eq_zero_iff]
  try omega
theorem refB_30 (d a b nn : Int) (l : List Int) (t0 t1 size n funcs : Int) : refB 30 d a b nn l t0 t1 size n funcs = instB 30 d a b nn l t0 t1 size n funcs := by
 unfold refB instB
 rw [show piecesS 30 = (⟨#[100, 97]⟩ : ByteArray) by decide, show piecesL 30 = [0, 1] by decide]
 simp only [hasC, toList_eq]
 cases h : l.any (offB size)
 all_goals
  apply bool_ext
  simp [okP, toldP, told0, withinB, emptyB, slotB, placeB, allB, h]
  try simp only [← List.length_eq_zero_iff]
  try omega
theorem refB_18 (d a b nn : Int) (l : List Int) (t0 t1 size n funcs : Int) : refB 18 d a b nn l t0 t1 size n funcs = instB 18 d a b nn l t0 t1 size n funcs := by
 unfold refB instB
 rw [show piecesS 18 = (⟨#[97, 98]⟩ : ByteArray) by decide, show piecesL 18 = [1, 2] by decide]
 simp only [hasC, toList_eq]
 cases h : l.any (offB size)
 all_goals
  apply bool_ext
  simp [okP, toldP, told0, withinB, emptyB, slotB, placeB, allB, h]
  try simp only [← List.length_eq_zero_iff]
  try omega
theorem refB_19 (d a b nn : Int) (l : List Int) (t0 t1 size n funcs : Int) : refB 19 d a b nn l t0 t1 size n funcs = instB 19 d a b nn l t0 t1 size n funcs := by
 unfold refB instB
 rw [show piecesS 19 = (⟨#[97, 98]⟩ : ByteArray) by decide, show piecesL 19 = [1, 2] by decide]
 simp only [hasC, toList_eq]
 cases h : l.any (offB size)
 all_goals
  apply bool_ext
  simp [okP, toldP, told0, withinB, emptyB, slotB, placeB, allB, h]
  try simp only [← List.length_eq_zero_iff]
  try omega
theorem refB_21 (d a b nn : Int) (l : List Int) (t0 t1 size n funcs : Int) : refB 21 d a b nn l t0 t1 size n funcs = instB 21 d a b nn l t0 t1 size n funcs := by
 unfold refB instB
 rw [show piecesS 21 = (⟨#[100, 97, 115, 108]⟩ : ByteArray) by decide, show piecesL 21 = [0, 1, 3, 5] by decide]
 simp only [hasC, toList_eq]
 cases h : l.any (offB size)
 all_goals
  apply bool_ext
  simp [okP, toldP, told0, withinB, emptyB, slotB, placeB, allB, h]
  try simp only [← List.length_eq_zero_iff]
  try omega
theorem refB_22 (d a b nn : Int) (l : List Int) (t0 t1 size n funcs : Int) : refB 22 d a b nn l t0 t1 size n funcs = instB 22 d a b nn l t0 t1 size n funcs := by
 unfold refB instB
 rw [show piecesS 22 = (⟨#[97]⟩ : ByteArray) by decide, show piecesL 22 = [1] by decide]
 simp only [hasC, toList_eq]
 cases h : l.any (offB size)
 all_goals
  apply bool_ext
  simp [okP, toldP, told0, withinB, emptyB, slotB, placeB, allB, h]
  try simp only [← List.length_eq_zero_iff]
  try omega
theorem refB_25 (d a b nn : Int) (l : List Int) (t0 t1 size n funcs : Int) : refB 25 d a b nn l t0 t1 size n funcs = instB 25 d a b nn l t0 t1 size n funcs := by
 unfold refB instB
 rw [show piecesS 25 = (⟨#[97]⟩ : ByteArray) by decide, show piecesL 25 = [1] by decide]
 simp only [hasC, toList_eq]
 cases h : l.any (offB size)
 all_goals
  apply bool_ext
  simp [okP, toldP, told0, withinB, emptyB, slotB, placeB, allB, h]
  try simp only [← List.length_eq_zero_iff]
  try omega
theorem refB_28 (d a b nn : Int) (l : List Int) (t0 t1 size n funcs : Int) : refB 28 d a b nn l t0 t1 size n funcs = instB 28 d a b nn l t0 t1 size n funcs := by
 unfold refB instB
 rw [show piecesS 28 = (⟨#[97]⟩ : ByteArray) by decide, show piecesL 28 = [1] by decide]
 simp only [hasC, toList_eq]
 cases h : l.any (offB size)
 all_goals
  apply bool_ext
  simp [okP, toldP, told0, withinB, emptyB, slotB, placeB, allB, h]
  try simp only [← List.length_eq_zero_iff]
  try omega
theorem refB_23 (d a b nn : Int) (l : List Int) (t0 t1 size n funcs : Int) : refB 23 d a b nn l t0 t1 size n funcs = instB 23 d a b nn l t0 t1 size n funcs := by
 unfold refB instB
 rw [show piecesS 23 = (⟨#[115]⟩ : ByteArray) by decide, show piecesL 23 = [3] by decide]
 simp only [hasC, toList_eq]
 cases h : l.any (offB size)
 all_goals
  apply bool_ext
  simp [okP, toldP, told0, withinB, emptyB, slotB, placeB, allB, h]
  try simp only [← List.length_eq_zero_iff]
  try omega
theorem refB_29 (d a b nn : Int) (l : List Int) (t0 t1 size n funcs : Int) : refB 29 d a b nn l t0 t1 size n funcs = instB 29 d a b nn l t0 t1 size n funcs := by
 unfold refB instB
 rw [show piecesS 29 = (⟨#[115]⟩ : ByteArray) by decide, show piecesL 29 = [3] by decide]
 simp only [hasC, toList_eq]
 cases h : l.any (offB size)
 all_goals
  apply bool_ext
  simp [okP, toldP, told0, withinB, emptyB, slotB, placeB, allB, h]
  try simp only [← List.length_eq_zero_iff]
  try omega
theorem refB_26 (d a b nn : Int) (l : List Int) (t0 t1 size n funcs : Int) : refB 26 d a b nn l t0 t1 size n funcs = instB 26 d a b nn l t0 t1 size n funcs := by
 unfold refB instB
 rw [show piecesS 26 = (⟨#[111]⟩ : ByteArray) by decide, show piecesL 26 = [6] by decide]
 simp only [hasC, toList_eq]
 cases h : l.any (offB size)
 all_goals
  apply bool_ext
  simp [okP, toldP, told0, withinB, emptyB, slotB, placeB, allB, h]
  try simp only [← List.length_eq_zero_iff]
  try omega
theorem refB_27 (d a b nn : Int) (l : List Int) (t0 t1 size n funcs : Int) : refB 27 d a b nn l t0 t1 size n funcs = instB 27 d a b nn l t0 t1 size n funcs := by
 unfold refB instB
 rw [show piecesS 27 = (⟨#[97, 116]⟩ : ByteArray) by decide, show piecesL 27 = [1, 7] by decide]
 simp only [hasC, toList_eq]
 cases h : l.any (offB size)
 all_goals
  apply bool_ext
  simp [okP, toldP, told0, withinB, emptyB, slotB, placeB, allB, h]
  try simp only [← List.length_eq_zero_iff]
  try omega
theorem refB_none (op d a b nn : Int) (l : List Int) (t0 t1 size n funcs : Int) (h : ¬ (op = 1 ∨ op = 2 ∨ op = 3 ∨ op = 4 ∨ op = 5 ∨ op = 6 ∨ op = 7 ∨ op = 8 ∨ op = 9 ∨ op = 10 ∨ op = 11 ∨ op = 12 ∨ op = 13 ∨ op = 14 ∨ op = 15 ∨ op = 16 ∨ op = 17 ∨ op = 18 ∨ op = 19 ∨ op = 21 ∨ op = 22 ∨ op = 23 ∨ op = 25 ∨ op = 26 ∨ op = 27 ∨ op = 28 ∨ op = 29 ∨ op = 30)) : refB op d a b nn l t0 t1 size n funcs = instB op d a b nn l t0 t1 size n funcs := by
 simp only [not_or] at h
 unfold refB instB
 rw [show piecesS op = (⟨#[]⟩ : ByteArray) by unfold piecesS; simp [h], show piecesL op = [] by unfold piecesL; simp [h]]
 simp only [toList_eq]
 simp
theorem refB_eq (op d a b nn : Int) (l : List Int) (t0 t1 size n funcs : Int) : refB op d a b nn l t0 t1 size n funcs = instB op d a b nn l t0 t1 size n funcs := by
 by_cases h : op = 1 ∨ op = 2 ∨ op = 3 ∨ op = 4 ∨ op = 5 ∨ op = 6 ∨ op = 7 ∨ op = 8 ∨ op = 9 ∨ op = 10 ∨ op = 11 ∨ op = 12 ∨ op = 13 ∨ op = 14 ∨ op = 15 ∨ op = 16 ∨ op = 17 ∨ op = 18 ∨ op = 19 ∨ op = 21 ∨ op = 22 ∨ op = 23 ∨ op = 25 ∨ op = 26 ∨ op = 27 ∨ op = 28 ∨ op = 29 ∨ op = 30
 ·rcases h with rfl | rfl | rfl | rfl | rfl | rfl | rfl | rfl | rfl | rfl | rfl | rfl | rfl | rfl | rfl | rfl | rfl | rfl | rfl | rfl | rfl | rfl | rfl | rfl | rfl | rfl | rfl | rfl
  ·exact refB_1 d a b nn l t0 t1 size n funcs
  ·exact refB_2 d a b nn l t0 t1 size n funcs
  ·exact refB_3 d a b nn l t0 t1 size n funcs
  ·exact refB_4 d a b nn l t0 t1 size n funcs
  ·exact refB_5 d a b nn l t0 t1 size n funcs
  ·exact refB_6 d a b nn l t0 t1 size n funcs
  ·exact refB_7 d a b nn l t0 t1 size n funcs
  ·exact refB_8 d a b nn l t0 t1 size n funcs
  ·exact refB_9 d a b nn l t0 t1 size n funcs
  ·exact refB_10 d a b nn l t0 t1 size n funcs
  ·exact refB_11 d a b nn l t0 t1 size n funcs
  ·exact refB_12 d a b nn l t0 t1 size n funcs
  ·exact refB_13 d a b nn l t0 t1 size n funcs
  ·exact refB_14 d a b nn l t0 t1 size n funcs
  ·exact refB_15 d a b nn l t0 t1 size n funcs
  ·exact refB_16 d a b nn l t0 t1 size n funcs
  ·exact refB_17 d a b nn l t0 t1 size n funcs
  ·exact refB_18 d a b nn l t0 t1 size n funcs
  ·exact refB_19 d a b nn l t0 t1 size n funcs
  ·exact refB_21 d a b nn l t0 t1 size n funcs
  ·exact refB_22 d a b nn l t0 t1 size n funcs
  ·exact refB_23 d a b nn l t0 t1 size n funcs
  ·exact refB_25 d a b nn l t0 t1 size n funcs
  ·exact refB_26 d a b nn l t0 t1 size n funcs
  ·exact refB_27 d a b nn l t0 t1 size n funcs
  ·exact refB_28 d a b nn l t0 t1 size n funcs
  ·exact refB_29 d a b nn l t0 t1 size n funcs
  ·exact refB_30 d a b nn l t0 t1 size n funcs
 ·exact refB_none op d a b nn l t0 t1 size n funcs h
def instOf (size n funcs : Int) (x : S37) : Bool := instB x.f0 x.f1 x.f2 x.f3 x.f4 x.f5 x.f6.f0 x.f6.f1 size n funcs
def lastOp (l : List S37) : Int := (rd_T37 l (wrap64 ((l.length : Int) - 1))).f0
def bodyErr (f : S33) (funcs : Int) : Int :=
 if f.f1 < 1 ∨ f.f1 > 4096 ∨ (f.f0.length : Int) > 8 ∨ (f.f2.length : Int) > 65536 then 6
 else if f.f2.length = 0 ∨ lastOp f.f2 < 26 ∨ lastOp f.f2 > 29 then 15
 else if f.f0.any (offB f.f1) = true then 8
 else if f.f2.all (instOf f.f1 (f.f2.length : Int) funcs) = true then 0 else 2
structure Fit (f : S33) : Prop where
 p : f.f0.length ≤ 9223372036854775806
 c : f.f2.length ≤ 9223372036854775806
 a : ∀ x ∈ f.f2, x.f5.length ≤ 9223372036854775806
theorem one_l0 (f : S33) (hf : Fit f) (funcs : Int) : ∀ (d i : Nat), f.f2.length - i = d → Ev (fun k => r33_one.l0 k funcs (f.f2.length : Int) (i : Int) f.f0 f.f1 f.f2) (if (f.f2.drop i).all (instOf f.f1 (f.f2.length : Int) funcs) = true then 0 else 2) := by
 have hc := hf.c
 intro d
 induction d with
 | zero =>
  intro i hd
  refine Ev.step (fun k => by simp only [r33_one.l0]; rfl) (ev_neg (by omega) ?_)
  rw [List.drop_eq_nil_of_le (by omega)]
  exact Ev.now _
 | succ d ih =>
  intro i hd
  have hi : i < f.f2.length := by omega
  refine Ev.step (fun k => by simp only [r33_one.l0]; rfl) (ev_pos (by omega) (ev_pos (by omega) (ev_pos (by omega) ?_)))
  rw [rd51_at _ i hi, List.drop_eq_getElem_cons hi, List.all_cons]
  refine ev_some (show r33_inst.f _ _ _ _ _ _ _ _ _ _ _ = some _ from if_pos (hf.a _ (List.getElem_mem hi))) ?_
  rw [refB_eq]
  show Ev _ (if (instOf f.f1 (f.f2.length : Int) funcs f.f2[i] && _) = true then 0 else 2)
  unfold instOf
  cases instB f.f2[i].f0 f.f2[i].f1 f.f2[i].f2 f.f2[i].f3 f.f2[i].f4 f.f2[i].f5 f.f2[i].f6.f0 f.f2[i].f6.f1 f.f1 (f.f2.length : Int) funcs
  ·exact ev_neg (by simp) (ev_eq (by simp) (Ev.now _))
  ·have hw : wrap64 ((i : Int) + 1) = ((i + 1 : Nat) : Int) := by rw [w64 (by omega) (by omega)]; omega
   rw [hw]
   exact ev_pos rfl (ev_eq (by simp [instOf]) (ih (i + 1) (by omega)))
theorem one_any (f : S33) (hf : Fit f) (funcs : Int) : Ev (fun k => r33_one.f k f.f0 f.f1 f.f2 funcs) (bodyErr f funcs) := by
 have hc := hf.c
 have hp := hf.p
 have hj1 : ∀ x : Bool, ¬ (f.f1 < 1 ∨ f.f1 > 4096 ∨ (f.f0.length : Int) > 8 ∨ (f.f2.length : Int) > 65536) → (x = true ↔ (f.f2.length = 0 ∨ lastOp f.f2 < 26 ∨ lastOp f.f2 > 29)) → Ev (fun k => r33_one.j1 k funcs (f.f2.length : Int) x f.f0 f.f1 f.f2) (bodyErr f funcs) := by
  intro x h6 hx
  refine Ev.step (fun k => by simp only [r33_one.j1]; rfl) ?_
  unfold bodyErr
  rw [if_neg h6]
  cases x
  ·rw [if_neg (fun h => by have := hx.2 h; cases this)]
   refine ev_neg (by simp) (ev_bind' (all_any f.f0 f.f1 hp) ?_)
   have hall : allB f.f0 f.f1 = !(f.f0.any (offB f.f1)) := by unfold allB; rw [decide_eq_true (by omega)]; simp
   rw [hall]
   cases f.f0.any (offB f.f1)
   ·have := one_l0 f hf funcs _ 0 rfl
    exact ev_pos rfl (ev_eq (by simp) this)
   ·exact ev_neg (by simp) (ev_eq (by simp) (Ev.now _))
  ·rw [if_pos (hx.1 rfl)]
   exact ev_pos rfl (Ev.now _)
 have hj0 : ∀ x : Bool, (x = true ↔ (f.f1 < 1 ∨ f.f1 > 4096 ∨ (f.f0.length : Int) > 8 ∨ (f.f2.length : Int) > 65536)) → Ev (fun k => r33_one.j0 k funcs (f.f2.length : Int) x f.f0 f.f1 f.f2) (bodyErr f funcs) := by
  intro x hx
  refine Ev.step (fun k => by simp only [r33_one.j0]; rfl) ?_
  cases x
  ·have h6 : ¬ (f.f1 < 1 ∨ f.f1 > 4096 ∨ (f.f0.length : Int) > 8 ∨ (f.f2.length : Int) > 65536) := fun h => by have := hx.2 h; cases this
   refine ev_neg (by simp) ?_
   by_cases h0 : (f.f2.length : Int) = 0
   ·exact ev_pos h0 (hj1 true h6 ⟨fun _ => .inl (by omega), fun _ => rfl⟩)
   ·have hw : wrap64 ((f.f2.length : Int) - 1) = (f.f2.length : Int) - 1 := w64 (by omega) (by omega)
    refine ev_neg h0 (ev_pos (by omega) (ev_pos (by omega) ?_))
    by_cases h1 : lastOp f.f2 < 26
    ·exact ev_pos h1 (hj1 true h6 ⟨fun _ => .inr (.inl h1), fun _ => rfl⟩)
    ·refine ev_neg h1 (hj1 _ h6 ⟨fun h => .inr (.inr (of_decide_eq_true h)), fun h => decide_eq_true ?_⟩)
     rcases h with h | h | h
     ·omega
     ·exact absurd h h1
     ·exact h
  ·unfold bodyErr
   rw [if_pos (hx.1 rfl)]
   exact ev_pos rfl (Ev.now _)
 unfold r33_one.f
 by_cases h1 : f.f1 < 1
 ·exact ev_pos h1 (hj0 true ⟨fun _ => .inl h1, fun _ => rfl⟩)
 ·by_cases h2 : f.f1 > 4096
  ·exact ev_neg h1 (ev_pos h2 (hj0 true ⟨fun _ => .inr (.inl h2), fun _ => rfl⟩))
  ·by_cases h3 : (f.f0.length : Int) > 8
   ·exact ev_neg h1 (ev_neg h2 (ev_pos h3 (hj0 true ⟨fun _ => .inr (.inr (.inl h3)), fun _ => rfl⟩)))
   ·refine ev_neg h1 (ev_neg h2 (ev_neg h3 (hj0 _ ⟨fun h => .inr (.inr (.inr (of_decide_eq_true h))), fun h => decide_eq_true ?_⟩)))
    rcases h with h | h | h | h
    ·exact absurd h h1
    ·exact absurd h h2
    ·exact absurd h h3
    ·exact h
def chkL (funcs : Int) : List S33 → Nat → Int × Int
 | [], _ => (0, 0)
 | f :: r, i => if bodyErr f funcs = 0 then chkL funcs r (i + 1) else (bodyErr f funcs, i)
def chk (l : List S33) : Int × Int := if (l.length : Int) > 32 then (6, (l.length : Int)) else chkL (l.length : Int) l 0
theorem ref_chk_l0 (l : List S33) (hl : l.length ≤ 32) (hf : ∀ f ∈ l, Fit f) : ∀ (d i : Nat), l.length - i = d → Ev (fun k => r33_Check.l0 k l (i : Int)) (chkL (l.length : Int) (l.drop i) i) := by
 intro d
 induction d with
 | zero =>
  intro i hd
  refine Ev.step (fun k => by simp only [r33_Check.l0]; rfl) (ev_neg (by omega) ?_)
  rw [List.drop_eq_nil_of_le (by omega)]
  exact Ev.now _
 | succ d ih =>
  intro i hd
  have hi : i < l.length := by omega
  refine Ev.step (fun k => by simp only [r33_Check.l0]; rfl) (ev_pos (by omega) (ev_pos (by omega) ?_))
  rw [rd47_at _ i hi, List.drop_eq_getElem_cons hi]
  refine ev_bind' (one_any l[i] (hf _ (List.getElem_mem hi)) (l.length : Int)) ?_
  have hw : wrap64 ((i : Int) + 1) = ((i + 1 : Nat) : Int) := by rw [w64 (by omega) (by omega)]; omega
  rw [hw]
  by_cases h : bodyErr l[i] (l.length : Int) = 0
  ·exact ev_pos h (ev_eq (by simp [chkL, h]) (ih (i + 1) (by omega)))
  ·exact ev_neg h (ev_eq (by simp [chkL, h]) (Ev.now _))
theorem ref_chk (l : List S33) (hf : ∀ f ∈ l, Fit f) : Ev (fun k => r33_Check.f k l) (chk l) := by
 unfold r33_Check.f chk
 by_cases h : (l.length : Int) > 32
 ·rw [if_pos h]; exact ev_pos h (Ev.now _)
 ·rw [if_neg h]; exact ev_neg h (ref_chk_l0 l (by omega) hf _ 0 rfl)
theorem ends_any (op : Int) : code_ends.f op = some (decide (26 ≤ op) && decide (op ≤ 29)) := by
 unfold code_ends.f
 by_cases h1 : op = 26
 ·subst h1; rfl
 ·by_cases h2 : op = 27
  ·subst h2; rfl
  ·by_cases h3 : op = 28
   ·subst h3; rfl
   ·rw [if_neg h1, if_neg h2, if_neg h3]
    congr 1
    by_cases h4 : op = 29
    ·subst h4; rfl
    ·rw [beq_eq_false_iff_ne.mpr h4]
     by_cases h5 : 26 ≤ op
     ·rw [decide_eq_false (show ¬ op ≤ 29 by omega)]; simp
     ·rw [decide_eq_false h5]; rfl
theorem prog_l1 (l : List S33) (f : S33) (hf : Fit f) (fi : Int) (r : Int × Int) (hr : f.f2.all (instOf f.f1 (f.f2.length : Int) (l.length : Int)) = true → Ev (fun k => code_Check.l0 k l l (l.length : Int) (wrap64 (fi + 1))) r) (hr2 : ¬ f.f2.all (instOf f.f1 (f.f2.length : Int) (l.length : Int)) = true → r = (2, fi)) :
  ∀ (d i : Nat), f.f2.length - i = d → (f.f2.take i).all (instOf f.f1 (f.f2.length : Int) (l.length : Int)) = true → Ev (fun k => code_Check.l1 k l fi (f.f2.length : Int) l (l.length : Int) fi f.f2 (f.f2.length : Int) (i : Int) f.f0 f.f1 f.f2) r := by
 have hc := hf.c
 intro d
 induction d with
 | zero =>
  intro i hd ht
  rw [List.take_of_length_le (by omega)] at ht
  exact Ev.step (fun k => by simp only [code_Check.l1]; rfl) (ev_neg (by omega) (hr ht))
 | succ d ih =>
  intro i hd ht
  have hi : i < f.f2.length := by omega
  refine Ev.step (fun k => by simp only [code_Check.l1]; rfl) (ev_pos (by omega) (ev_pos (by omega) (ev_pos (by omega) ?_)))
  rw [rd51_at _ i hi]
  refine ev_some (show code_inst.f _ _ _ _ _ _ _ _ _ _ _ = some _ from rfl) ?_
  have hs : (f.f2.take (i + 1)).all (instOf f.f1 (f.f2.length : Int) (l.length : Int)) = instOf f.f1 (f.f2.length : Int) (l.length : Int) f.f2[i] := by
   rw [List.take_succ_eq_append_getElem hi, List.all_append, ht]; simp
  cases h : instOf f.f1 (f.f2.length : Int) (l.length : Int) f.f2[i]
  ·refine ev_neg (fun e => by rw [show instB _ _ _ _ _ _ _ _ _ _ _ = false from h] at e; cases e) ?_
   rw [hr2 (fun e => by
    have := List.all_eq_true.mp e _ (List.getElem_mem hi)
    rw [h] at this; cases this)]
   exact Ev.now _
  ·have hw : wrap64 ((i : Int) + 1) = ((i + 1 : Nat) : Int) := by rw [w64 (by omega) (by omega)]; omega
   rw [hw]
   exact ev_pos h (ih (i + 1) (by omega) (by rw [hs, h]))
theorem prog_l0 (l : List S33) (hl : l.length ≤ 32) (hf : ∀ f ∈ l, Fit f) : ∀ (d i : Nat), l.length - i = d → Ev (fun k => code_Check.l0 k l l (l.length : Int) (i : Int)) (chkL (l.length : Int) (l.drop i) i) := by
 intro d
 induction d with
 | zero =>
  intro i hd
  refine Ev.step (fun k => by simp only [code_Check.l0]; rfl) (ev_neg (by omega) ?_)
  rw [List.drop_eq_nil_of_le (by omega)]
  exact Ev.now _
 | succ d ih =>
  intro i hd
  have hi : i < l.length := by omega
  have hw : wrap64 ((i : Int) + 1) = ((i + 1 : Nat) : Int) := by rw [w64 (by omega) (by omega)]; omega
  have hfi := hf _ (List.getElem_mem hi)
  refine Ev.step (fun k => by simp only [code_Check.l0]; rfl) (ev_pos (by omega) (ev_pos (by omega) (ev_pos (by omega) ?_)))
  rw [rd47_at _ i hi, List.drop_eq_getElem_cons hi]
  have hnext := ih (i + 1) (by omega)
  rw [← hw] at hnext
  generalize hg : l[i] = f at *
  have hc := hfi.c
  have hres : chkL (l.length : Int) (f :: l.drop (i + 1)) i = if bodyErr f (l.length : Int) = 0 then chkL (l.length : Int) (l.drop (i + 1)) (i + 1) else (bodyErr f (l.length : Int), (i : Int)) := rfl
  rw [hres]
  have hj2 : ∀ x : Bool, ¬ (f.f1 < 1 ∨ f.f1 > 4096 ∨ (f.f0.length : Int) > 8 ∨ (f.f2.length : Int) > 65536) → (x = true ↔ (f.f2.length = 0 ∨ lastOp f.f2 < 26 ∨ lastOp f.f2 > 29)) → Ev (fun k => code_Check.j2 k l (i : Int) (f.f2.length : Int) l (l.length : Int) (i : Int) x f.f0 f.f1 f.f2) (if bodyErr f (l.length : Int) = 0 then chkL (l.length : Int) (l.drop (i + 1)) (i + 1) else (bodyErr f (l.length : Int), (i : Int))) := by
   intro x h6 hx
   refine Ev.step (fun k => by simp only [code_Check.j2]; rfl) ?_
   cases x
   ·have h15 : ¬ (f.f2.length = 0 ∨ lastOp f.f2 < 26 ∨ lastOp f.f2 > 29) := fun h => by have := hx.2 h; cases this
    refine ev_neg (by simp) ?_
    by_cases h8 : f.f0.any (offB f.f1) = true
    ·have e : bodyErr f (l.length : Int) = 8 := by unfold bodyErr; rw [if_neg h6, if_neg h15, if_pos h8]
     rw [e]
     exact ev_pos h8 (Ev.now _)
    ·refine ev_neg h8 ?_
     have e : bodyErr f (l.length : Int) = if f.f2.all (instOf f.f1 (f.f2.length : Int) (l.length : Int)) = true then 0 else 2 := by unfold bodyErr; rw [if_neg h6, if_neg h15, if_neg h8]
     rw [e]
     refine prog_l1 l f hfi (i : Int) _ (fun h => ?_) (fun h => ?_) _ 0 rfl rfl
     ·rw [if_pos h]; exact hnext
     ·rw [if_neg h]; rfl
   ·have e : bodyErr f (l.length : Int) = 15 := by unfold bodyErr; rw [if_neg h6, if_pos (hx.1 rfl)]
    rw [e]
    exact ev_pos rfl (Ev.now _)
  have hj1 : ∀ x : Bool, (x = true ↔ (f.f1 < 1 ∨ f.f1 > 4096 ∨ (f.f0.length : Int) > 8 ∨ (f.f2.length : Int) > 65536)) → Ev (fun k => code_Check.j1 k l (i : Int) (f.f2.length : Int) l (l.length : Int) (i : Int) x f.f0 f.f1 f.f2) (if bodyErr f (l.length : Int) = 0 then chkL (l.length : Int) (l.drop (i + 1)) (i + 1) else (bodyErr f (l.length : Int), (i : Int))) := by
   intro x hx
   refine Ev.step (fun k => by simp only [code_Check.j1]; rfl) ?_
   cases x
   ·have h6 : ¬ (f.f1 < 1 ∨ f.f1 > 4096 ∨ (f.f0.length : Int) > 8 ∨ (f.f2.length : Int) > 65536) := fun h => by have := hx.2 h; cases this
    refine ev_neg (by simp) ?_
    by_cases h0 : (f.f2.length : Int) = 0
    ·exact ev_pos h0 (hj2 true h6 ⟨fun _ => .inl (by omega), fun _ => rfl⟩)
    ·have hw2 : wrap64 ((f.f2.length : Int) - 1) = (f.f2.length : Int) - 1 := w64 (by omega) (by omega)
     refine ev_neg h0 (ev_pos (by omega) (ev_pos (by omega) (ev_some (ends_any _) (hj2 _ h6 ?_))))
     show (!(decide (26 ≤ lastOp f.f2) && decide (lastOp f.f2 ≤ 29))) = true ↔ _
     generalize lastOp f.f2 = o
     have h00 : ¬ f.f2.length = 0 := by omega
     simp only [h00, false_or]
     simp
     try omega
   ·have e : bodyErr f (l.length : Int) = 6 := by unfold bodyErr; rw [if_pos (hx.1 rfl)]
    rw [e]
    exact ev_pos rfl (Ev.now _)
  by_cases h1 : f.f1 < 1
  ·exact ev_pos h1 (hj1 true ⟨fun _ => .inl h1, fun _ => rfl⟩)
  ·by_cases h2 : f.f1 > 4096
   ·exact ev_neg h1 (ev_pos h2 (hj1 true ⟨fun _ => .inr (.inl h2), fun _ => rfl⟩))
   ·by_cases h3 : (f.f0.length : Int) > 8
    ·exact ev_neg h1 (ev_neg h2 (ev_pos h3 (hj1 true ⟨fun _ => .inr (.inr (.inl h3)), fun _ => rfl⟩)))
    ·refine ev_neg h1 (ev_neg h2 (ev_neg h3 (hj1 _ ⟨fun h => .inr (.inr (.inr (of_decide_eq_true h))), fun h => decide_eq_true ?_⟩)))
     rcases h with h | h | h | h
     ·exact absurd h h1
     ·exact absurd h h2
     ·exact absurd h h3
     ·exact h
theorem prog_chk (l : List S33) (hf : ∀ f ∈ l, Fit f) : Ev (fun k => code_Check.f k l) (chk l) := by
 unfold code_Check.f chk
 by_cases h : (l.length : Int) > 32
 ·rw [if_pos h]; exact ev_pos h (Ev.now _)
 ·rw [if_neg h]; exact ev_neg h (prog_l0 l (by omega) hf _ 0 rfl)
end Go.Proofs.Ytkgjbdbhpohkiaa.CodeLaw
end
-- from YtkgjbdbhpohkiaaPureListingReads
section
namespace Go.Proofs.Ytkgjbdbhpohkiaa.Pure
open Go.RowKit Go.Proofs.Ytkgjbdbhpohkiaa.PLi Go.Proofs.Ytkgjbdbhpohkiaa.ListingReadsSaid Go.Proofs.YtkgjbdbhpohkiaaW.PrintWords Go.Proofs.YtkgjbdbhpohkiaaW.PrintLast Go.Proofs.Ytkgjbdbhpohkiaa.Str Go.Proofs.Ytkgjbdbhpohkiaa.CodeLaw Go.Proofs.Ytkgjbdbhpohkiaa.LiReadB Go.Proofs.Ytkgjbdbhpohkiaa.LiSplit
theorem fb_fit {l : List S33} (h : ∀ f ∈ l, FB f) : ∀ f ∈ l, Fit f := fun f hf =>
 ⟨by have := (h f hf).p; omega, by have := (h f hf).c; omega, fun x hx => by have := ((h f hf).x x hx).l; omega⟩
theorem split_toks (a : ByteArray) (ha : a.size ≤ 2500) : ∃ tl c e, splitL a = (tl, c, e) ∧ (c = 0 → Toks tl) := by
 unfold splitL
 rw [if_neg (by omega)]
 obtain ⟨⟨tl, c, e⟩, h⟩ : ∃ x, splitGo a a.data.toList 0 (-1) false [] = x := ⟨_, rfl⟩
 refine ⟨tl, c, e, h, ?_⟩
 rcases split_stand a a.data.toList 0 (-1) false [] 0 tl c e rfl (Nat.zero_le _) (Int.le_refl _) (.inl ⟨rfl, by omega⟩) h with ⟨h1, h2⟩ | ⟨h1, h2, h3, -⟩
 ·have hl := stand_len h2
  exact fun _ => ⟨by omega, fun t ht => (stand_in h2 t ht).1, fun t ht => by have := (stand_in h2 t ht).2; omega⟩
 ·exact fun e => absurd e (by omega)
theorem reads_any (a : ByteArray) (ha : a.size ≤ 2500) : ∃ l c e, Ev (fun k => listing_Read.f k a) (l, c, e) ∧ Ev (fun k => r37_Read.f k a) (l, c, e) ∧ l.length ≤ 200000 ∧ ∀ f ∈ l, FB f := by
 obtain ⟨tl, c, e, hs, hT⟩ := split_toks a ha
 have hsp : token_Split.f a = some (tl, c, e) := by unfold token_Split.f; rw [hs]
 have hsr : Ev (fun k => r02_Split.f k a) (tl, c, e) := by have := ref_split a; rw [hs] at this; exact this
 have no : ∀ f ∈ ([] : List S33), FB f := fun f hf => by cases hf
 unfold listing_Read.f r37_Read.f
 by_cases hc : c = 0
 ·subst hc
  obtain ⟨out, r1, r3, r4, k1, k1r, k2, k3, k4⟩ := words_any (hT rfl) (s2 := (a.size : Int)) (by omega)
  by_cases h3 : r3 = 0
  ·have hck := prog_chk out (fb_fit k4)
   have hcr := ref_chk out (fb_fit k4)
   by_cases h0 : (chk out).1 = 0
   ·exact ⟨out, 0, 0, ev_some hsp (ev_pos (c := (0 : Int) = 0) rfl (ev_bind'' k1 (ev_pos h3 (ev_bind'' hck (ev_pos h0 (Ev.now _)))))),
     ev_bind'' hsr (ev_pos (c := (0 : Int) = 0) rfl (ev_bind'' k1r (ev_pos h3 (ev_bind'' hcr (ev_pos h0 (Ev.now _)))))), k3, k4⟩
   ·exact ⟨[], (chk out).1, wrap64 ((a.size : Int) + (chk out).2), ev_some hsp (ev_pos (c := (0 : Int) = 0) rfl (ev_bind'' k1 (ev_pos h3 (ev_bind'' hck (ev_neg h0 (Ev.now _)))))),
     ev_bind'' hsr (ev_pos (c := (0 : Int) = 0) rfl (ev_bind'' k1r (ev_pos h3 (ev_bind'' hcr (ev_neg h0 (Ev.now _)))))), Nat.zero_le _, no⟩
  ·exact ⟨[], r3, r4, ev_some hsp (ev_pos (c := (0 : Int) = 0) rfl (ev_bind'' k1 (ev_neg h3 (Ev.now _)))),
    ev_bind'' hsr (ev_pos (c := (0 : Int) = 0) rfl (ev_bind'' k1r (ev_neg h3 (Ev.now _)))), Nat.zero_le _, no⟩
 ·exact ⟨[], c, e, ev_some hsp (ev_neg hc (Ev.now _)), ev_bind'' hsr (ev_neg hc (Ev.now _)), Nat.zero_le _, no⟩
theorem ListingReads : ListingReads.Good := by
 intro a ha
 refine Ev.rounds (g := fun k => l37_ListingReads.f k a) ?_
 unfold l37_ListingReads.f
 by_cases hbig : 2500 < a.size
 ·exact ev_pos hbig (Ev.now _)
 refine ev_neg hbig ?_
 obtain ⟨l, c, e, hr, hr2, hl, hfb⟩ := reads_any a (by omega)
 have hsame : r32_Same.f l l = some true := if_pos ⟨eqBs_self l (fun f hf => ⟨by have := (hfb f hf).p; omega, by have := (hfb f hf).c; omega, fun x hx => by have := ((hfb f hf).x x hx).l; omega⟩), by omega⟩
 exact ev_bind'' hr (ev_bind'' hr2 (ev_some hsame (ev_pos ⟨rfl, rfl, rfl⟩ (Ev.now _))))
end Go.Proofs.Ytkgjbdbhpohkiaa.Pure
end
-- from YtkgjbdbhpohkiaaLawListingReads
section
namespace Go.Proofs.Ytkgjbdbhpohkiaa.listingReads
open Go.ChangeShapes Go.WideShapes Go.ChangeAt Go.RowKit
open Go.ChangeMaps (open_string shut_string)
open Go.Proofs.Ytkgjbdbhpohkiaa.PLi Go.Proofs.Ytkgjbdbhpohkiaa.Open Go.Proofs.Ytkgjbdbhpohkiaa.ListingReadsSaid
set_option linter.unusedVariables false
theorem own : ownKnob Try.prog.godebug = none := by kernel_rfl
theorem laidOut : laidOutB Try.prog = true := by kernel_rfl
set_option maxHeartbeats 4000000 in
set_option maxRecDepth 100000 in
theorem lifted (os : Os) (started : os.Started) (H : Type) (enc : TypeId × Value → H) :
  ReturnsInHanded {} Try.checked os 4 .any (Rows.listingReadsSpec.pre6 enc Try.prog Try.f4 Rows.listingReadsRow.domain false) (Rows.listingReadsSpec.post enc Try.prog Try.f4 false true false false) := by
 refine returnsInHanded_of_change_sized (C := Try.checked) own started (by kernel_rfl) Try.func4
  (ChangeSpec.witness6 (enc := enc) (C := Try.checked) false ⟨#[], #[.string ByteArray.empty], []⟩ 8 (by kernel_rfl) (by kernel_rfl) (by kernel_rfl) (by kernel_rfl)) ?_
 intro W base args ds gs before hval0 hW hcnd hsz0 _
 have hsz : (DataW.weightsEach Try.prog (Try.f4.params.toList ++ Rows.listingReadsSpec.plain.varTypes Try.prog) (ds ++ gs)).all (· ≤ reachBytes) = true := hsz0
 have hval : ∀ (j : Nat) t v, Try.f4.params[j]? = some t → args[j]? = some v → Value.okWide Try.prog W .any base t v := hval0
 have hW' := hW
 obtain ⟨p, q, hA0, hV, rfl, hfz, hnd⟩ := hW
 have hA : DataW.TrodAll enc Try.prog W 0 (fun _ => true) true Try.f4.params.toList args.toList ds p := hA0
 rw [Try.params4] at hA hval hsz
 obtain ⟨v0, vs0, d0, ds0, p0, q0, hargs, rfl, rfl, h0, r0⟩ := trodAll_cons hA
 obtain ⟨rfl, rfl, rfl⟩ := trodAll_nil r0
 obtain rfl : args = #[v0] := by cases args; simp_all
 obtain ⟨rfl, rfl⟩ := trodVars_none hV
 obtain ⟨a0, rfl, rfl, rfl, y0⟩ := open_string Try.underlying9 (hval 0 9 v0 rfl rfl) h0
 have w0 : a0.size ≤ 140737488351232 := by
  have z := sized_string hsz (j := 0) (t := 9) rfl rfl
  rw [Array.length_toList] at z
  exact z
 clear hA0 hval0 hsz0 hsz
 obtain ⟨k, hk⟩ := Pure.ListingReads a0 w0
 refine (l37_ListingReads.calls k a0 true W hk).mono ?_
 rintro e W' ⟨rfl, hd_⟩
 have bel : Below W.heap.size W W' := hd_
 exact ⟨_, rfl, _, _, _, [], _, [], hW', trodAll_mk1 (shut_bool Try.underlying4 _), (trodAll_cons_mk (shut_string Try.underlying9 y0) trodAll_mk0), rfl, bel.frame _, fun h => by cases h⟩
theorem over : Rows.listingReadsRow.holds Try.pinned (OpenSpec.ofChange Rows.listingReadsSpec) :=
 OpenClaim.holds_of_wide 4 Try.f4 rfl rfl rfl rfl rfl rfl rfl ⟨rfl, rfl, rfl, rfl, rfl⟩ rfl rfl rfl rfl rfl (by kernel_rfl) Try.func4 (by kernel_rfl)
  (of_decide_eq_true (by kernel_rfl)) (by unfold Func.isWrapper; first | (rw [if_pos (by decide +kernel)]; kernel_rfl) | (rw [if_neg (by decide +kernel)]; exact ⟨rfl, rfl⟩))
  (fun os started H enc _ => lifted os started H enc)
theorem proved : Rows.ListingReadsSaid := over
#print axioms proved
end Go.Proofs.Ytkgjbdbhpohkiaa.listingReads
namespace Go.Proofs.Ytkgjbdbhpohkiaa
theorem listingReads_holds : Rows.ListingReadsSaid := listingReads.proved
end Go.Proofs.Ytkgjbdbhpohkiaa
end
