/- Each word stands in the text where it says, none is empty, and each begins behind the end of the one ahead. -/
import Derived.Test.YthnkgnbemmndgaaPTkx5
import Derived.Test.YthnkgnbemmndgaaTokLaw
namespace Go.Proofs.Ythnkgnbemmndgaa.Pure
open Go.RowKit Go.Proofs.Ythnkgnbemmndgaa.PTk Go.Proofs.YthnkgnbemmndgaaW.PrintWords Go.Proofs.YthnkgnbemmndgaaW.PrintLast Go.Proofs.YthnkgnbemmndgaaW.PrintMore Go.Proofs.Ythnkgnbemmndgaa.Str Go.Proofs.Ythnkgnbemmndgaa.TokLaw

theorem stands_loop (s : ByteArray) (hs : s.size ≤ 2000) : ∀ (rest pre : List Tok) (a : Int), 0 ≤ a → (pre ++ rest).length ≤ 4000 → Stand s a rest s.size → Ev (fun k => turntablelaw02_TokenStands.l0 k s (pre ++ rest) a (pre.length : Int)) true := by
  intro rest
  induction rest with
  | nil =>
    intro pre a _ _ _
    refine Ev.step (f := fun k => (turntablelaw02_works.f k).bind fun t => some t) (fun k => by simp only [turntablelaw02_TokenStands.l0]; rw [if_neg (by simp)]) ?_
    exact Ev.bind (f := fun _ t => some t) works_ev (Ev.now _)
  | cons t rest ih =>
    intro pre a h0 hl hst
    obtain ⟨h1, h2, h3, h4, h5⟩ := hst
    have hlt : (pre.length : Int) < ((pre ++ t :: rest).length : Int) := by simp; omega
    have hw : wrap64 ((pre.length : Int) + 1) = ((pre ++ [t]).length : Int) := by
      rw [w64 (by omega) (by simp at hl; omega)]; simp
    have hpre : pre ++ t :: rest = (pre ++ [t]) ++ rest := by simp
    have w1 : wrap64 ((s.size : Int) - (t.f0.size : Int)) = (s.size : Int) - (t.f0.size : Int) := w64 (by omega) (by omega)
    have w2 : wrap64 (t.f1 + (t.f0.size : Int)) = t.f1 + (t.f0.size : Int) := w64 (by omega) (by omega)
    refine Ev.step (f := fun k => turntablelaw02_TokenStands.l0 k s ((pre ++ [t]) ++ rest) (t.f1 + t.f0.size) ((pre ++ [t]).length : Int)) (fun k => ?_) (ih (pre ++ [t]) _ (by omega) (by rw [← hpre]; exact hl) h5)
    simp only [turntablelaw02_TokenStands.l0]
    rw [if_pos hlt, if_pos (by omega), rd_pre, w1, w2, hw, if_neg (by omega), if_neg (by omega), if_neg (by omega), if_pos (by omega), if_pos (by omega), if_pos (by omega), if_pos (by rw [h4]), ← hpre]

theorem TokenStands : turntablelaw02_TokenStands.Pure := by
  intro a0 _
  refine Ev.rounds ?_
  unfold turntablelaw02_TokenStands.f
  refine ev_if (fun h => ?_) (fun h => ?_)
  · exact Ev.bind (f := fun _ t => some t) works_ev (Ev.now _)
  · obtain ⟨⟨r1, r2, r3⟩, hr⟩ : ∃ r, splitL a0 = r := ⟨_, rfl⟩
    have hs : token_Split.f a0 = some (r1, r2, r3) := by unfold token_Split.f; rw [hr]
    have hg : splitGo a0 a0.data.toList 0 (-1) false [] = (r1, r2, r3) := by
      unfold splitL at hr; rw [if_neg (by omega)] at hr; exact hr
    refine ev_some hs ?_
    rcases split_stand a0 _ 0 (-1) false [] 0 r1 r2 r3 rfl (Nat.zero_le _) (Int.le_refl _) (.inl ⟨rfl, Int.le_refl _⟩) hg with ⟨e1, e2⟩ | ⟨e1, e2, e3, e4⟩
    · refine ev_pos e1 ?_
      have := stand_tot e2
      exact stands_loop a0 (by omega) r1 [] 0 (Int.le_refl _) (by simp; omega) e2
    · refine ev_neg (by show ¬ r2 = 0; omega) (ev_pos e3 (ev_pos e4 (ev_pos (by show ((r1.length : Nat) : Int) = 0; rw [e2]; rfl) ?_)))
      exact Ev.bind (f := fun _ t => some t) works_ev (Ev.now _)
end Go.Proofs.Ythnkgnbemmndgaa.Pure
