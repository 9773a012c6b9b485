/- Whether a text is a name, and which text some words are, is what the reference tells. -/
import Derived.Test.YthnkgnbemmndgaaSaidTokenNames
import Derived.Test.YthnkgnbemmndgaaTokLaw
namespace Go.Proofs.Ythnkgnbemmndgaa.Pure
open Go.RowKit Go.Proofs.Ythnkgnbemmndgaa.PTk Go.Proofs.Ythnkgnbemmndgaa.TokenNamesSaid Go.Proofs.YthnkgnbemmndgaaW.PrintWords Go.Proofs.YthnkgnbemmndgaaW.PrintLast Go.Proofs.YthnkgnbemmndgaaW.PrintMore Go.Proofs.Ythnkgnbemmndgaa.Str Go.Proofs.Ythnkgnbemmndgaa.TokLaw

theorem names_loop (a0 : ByteArray) (h0 : a0.size ≤ 500) : ∀ (rest pre : List Tok), (pre ++ rest).length ≤ 100 → (∀ t ∈ pre, t.f0.size ≤ 100) → Ev (fun k => turntablelaw02_TokenNames.l0 k a0 (pre ++ rest) (pre.length : Int)) true := by
  intro rest
  induction rest with
  | nil =>
    intro pre hl hp
    refine Ev.step (f := fun k => (token_Name.f a0).bind fun t131 => ((turntableref02_Name.f k a0).bind fun t132 => (if (t131 == t132) = true then ((token_Join.f k (pre ++ [])).bind fun t133 => ((turntableref02_Join.f k (pre ++ [])).bind fun t134 => (if t133.toList = t134.toList then ((turntablelaw02_works.f k).bind fun t135 => (some t135)) else (some false)))) else (some false)))) (fun k => by simp only [turntablelaw02_TokenNames.l0]; rw [if_neg (by simp)]) ?_
    rw [List.append_nil] at hl ⊢
    have ht := tot_le pre hp
    refine ev_some (show token_Name.f a0 = some (nameL a0.data.toList) from rfl) ?_
    have hn := ref_name_ev a0.data.toList (by have : a0.size = a0.data.toList.length := rfl; omega)
    rw [← mk_data] at hn
    refine Ev.bind (f := fun k t132 => if (nameL a0.data.toList == t132) = true then ((token_Join.f k pre).bind fun t133 => ((turntableref02_Join.f k pre).bind fun t134 => (if t133.toList = t134.toList then ((turntablelaw02_works.f k).bind fun t135 => (some t135)) else (some false)))) else (some false)) hn ?_
    refine ev_pos (by simp) ?_
    refine Ev.bind (f := fun k t133 => (turntableref02_Join.f k pre).bind fun t134 => (if t133.toList = t134.toList then ((turntablelaw02_works.f k).bind fun t135 => (some t135)) else (some false))) (join_ev pre (by omega) (by omega)) ?_
    refine Ev.bind (f := fun k t134 => if (joinFrom (⟨#[]⟩ : ByteArray) 0 pre).toList = t134.toList then ((turntablelaw02_works.f k).bind fun t135 => (some t135)) else (some false)) (ref_join_ev pre (by omega) (by omega)) ?_
    exact ev_pos rfl (Ev.bind (f := fun _ t => some t) works_ev (Ev.now _))
  | cons t rest ih =>
    intro pre hl hp
    have hlt : (pre.length : Int) < ((pre ++ t :: rest).length : Int) := by simp; omega
    have hw : wrap64 ((pre.length : Int) + 1) = ((pre ++ [t]).length : Int) := by
      rw [w64 (by omega) (by simp at hl; omega)]; simp
    have hpre : pre ++ t :: rest = (pre ++ [t]) ++ rest := by simp
    refine Ev.step (f := fun k => if (t.f0.size : Int) > 100 then ((turntablelaw02_works.f k).bind fun t130 => (some t130)) else turntablelaw02_TokenNames.l0 k a0 ((pre ++ [t]) ++ rest) ((pre ++ [t]).length : Int)) (fun k => ?_) ?_
    · simp only [turntablelaw02_TokenNames.l0]
      rw [if_pos hlt, if_pos (by omega), rd_pre, hw, ← hpre]
    · refine ev_if (fun h => ?_) (fun h => ?_)
      · exact Ev.bind (f := fun _ t => some t) works_ev (Ev.now _)
      · refine ih (pre ++ [t]) (by rw [← hpre]; exact hl) (fun x hx => ?_)
        rw [List.mem_append, List.mem_singleton] at hx
        rcases hx with hx | rfl
        · exact hp x hx
        · omega

theorem TokenNames : TokenNames.Good := by
  intro a0 a1 _ _
  refine Ev.rounds ?_
  unfold turntablelaw02_TokenNames.f
  have j1 : Ev (fun k => turntablelaw02_TokenNames.j0 k a0 a1 true) true := Ev.step (f := fun k => (turntablelaw02_works.f k).bind fun t => some t) (fun k => by simp [turntablelaw02_TokenNames.j0]) (Ev.bind (f := fun _ t => some t) works_ev (Ev.now _))
  refine ev_if (fun h => j1) (fun h => ?_)
  by_cases h1 : (a1.length : Int) > 100
  · rw [decide_eq_true h1]; exact j1
  · rw [decide_eq_false h1]
    refine Ev.step (f := fun k => turntablelaw02_TokenNames.l0 k a0 ([] ++ a1) (([] : List Tok).length : Int)) (fun k => by simp [turntablelaw02_TokenNames.j0]) ?_
    exact names_loop a0 (by omega) a1 [] (by simp; omega) (fun _ hx => by cases hx)
end Go.Proofs.Ythnkgnbemmndgaa.Pure
