/- Words put together are split as these words again, and put together once more they are the same text. -/
import Derived.Test.YthnkgnbemmndgaaPTkx4
import Derived.Test.YthnkgnbemmndgaaTokLaw
namespace Go.Proofs.Ythnkgnbemmndgaa.Pure
open Go.RowKit Go.Proofs.Ythnkgnbemmndgaa.PTk Go.Proofs.YthnkgnbemmndgaaW.PrintWords Go.Proofs.YthnkgnbemmndgaaW.PrintLast Go.Proofs.YthnkgnbemmndgaaW.PrintMore Go.Proofs.Ythnkgnbemmndgaa.Str Go.Proofs.Ythnkgnbemmndgaa.TokLaw

theorem rd_lt (l : List Tok) (i : Nat) (h : i < l.length) : rd_T46 l (i : Int) = l[i] := by
  unfold rd_T46
  simp [h]

theorem back_loop (l m : List Tok) (hlm : l.length = m.length) (hl : l.length ≤ 4000) (ht : Texts m = Texts l) : ∀ (d i : Nat), i + d = l.length → Ev (fun k => turntablelaw02_TokenBack.l0 k l m (i : Int)) true := by
  intro d
  induction d with
  | zero =>
    intro i hi
    refine Ev.step (f := fun k => (turntablelaw02_works.f k).bind fun t => some t) (fun k => by simp only [turntablelaw02_TokenBack.l0]; rw [if_neg (by omega)]) ?_
    exact Ev.bind (f := fun _ t => some t) works_ev (Ev.now _)
  | succ d ih =>
    intro i hi
    refine Ev.step (f := fun k => turntablelaw02_TokenBack.l0 k l m ((i + 1 : Nat) : Int)) (fun k => ?_) (ih (i + 1) (by omega))
    simp only [turntablelaw02_TokenBack.l0]
    have e := texts_get ht i (by omega) (by omega)
    rw [if_pos (by omega), if_pos (by omega), if_pos (by omega), rd_lt l i (by omega), rd_lt m i (by omega), if_pos (by rw [e]), w64 (by omega) (by omega)]
    rfl

theorem TokenBack : turntablelaw02_TokenBack.Pure := by
  intro a0 _
  refine Ev.rounds ?_
  unfold turntablelaw02_TokenBack.f
  refine ev_if (fun h => ?_) (fun h => ?_)
  · exact Ev.bind (f := fun _ t => some t) works_ev (Ev.now _)
  · obtain ⟨⟨r1, r2, r3⟩, hr⟩ : ∃ r, splitL a0 = r := ⟨_, rfl⟩
    have hs : token_Split.f a0 = some (r1, r2, r3) := by unfold token_Split.f; rw [hr]
    have hg : splitGo a0 a0.data.toList 0 (-1) false [] = (r1, r2, r3) := by
      unfold splitL at hr; rw [if_neg (by omega)] at hr; exact hr
    refine ev_some hs ?_
    refine ev_if (fun h0 => ?_) (fun h0 => Ev.bind (f := fun _ t => some t) works_ev (Ev.now _))
    have hst : Stand a0 0 r1 a0.size := by
      rcases split_stand a0 _ 0 (-1) false [] 0 r1 r2 r3 rfl (Nat.zero_le _) (Int.le_refl _) (.inl ⟨rfl, Int.le_refl _⟩) hg with ⟨e1, e2⟩ | ⟨e1, _⟩
      · exact e2
      · have : r2 = 0 := h0
        omega
    have hwd := split_words a0 _ 0 (-1) false [] r1 r2 r3 rfl (Nat.zero_le _) (fun b hb => by cases hb) (.inl rfl) (fun e => by cases e) hg
    have htot := stand_tot hst
    have hsz := tot_le
    have hj := join_ev r1 (by omega) (by omega)
    rw [join_glue0] at hj
    refine Ev.bind (f := fun k t144 => (token_Split.f t144).bind fun bt145 => (if bt145.2.1 = 0 then (if (bt145.1.length : Int) = (r1.length : Int) then ((token_Join.f k bt145.1).bind fun t151 => (turntablelaw02_TokenBack.j0 k r1 bt145.1 (t151.toList != t144.toList))) else (turntablelaw02_TokenBack.j0 k r1 bt145.1 true)) else (turntablelaw02_TokenBack.j0 k r1 bt145.1 true))) hj ?_
    obtain ⟨m, hm1, hm2⟩ := split_glue (mk (glue (Texts r1))) (Texts r1) 0 [] hwd rfl
    have hglue : (glue (Texts r1)).length ≤ tot r1 := by
      clear hwd hj hm1 hm2 htot hst hg hs hr h0
      induction r1 with
      | nil => exact Nat.le_refl _
      | cons t l ih =>
        show (glue (t.f0.data.toList :: Texts l)).length ≤ _
        rw [glue_cons, tot_cons, List.length_append]
        have : t.f0.data.toList.length = t.f0.size := rfl
        split
        · simp; omega
        · rw [List.length_cons]; omega
    have hs2 : token_Split.f (mk (glue (Texts r1))) = some (m, 0, 0) := by
      unfold token_Split.f splitL
      rw [mk_size, if_neg (by omega), hm1, List.nil_append]
    have hlen : m.length = r1.length := by
      have := congrArg List.length hm2
      simpa [Texts] using this
    refine ev_some hs2 (ev_pos rfl (ev_pos (by show ((m.length : Nat) : Int) = _; rw [hlen]) ?_))
    have htm : tot m = tot r1 := by
      have e : ∀ l : List Tok, tot l = ((Texts l).map fun b => b.length + 1).sum := fun l => by
        unfold tot Texts
        rw [List.map_map]
        rfl
      rw [e, e, hm2]
    have hj2 := join_ev m (by omega) (by omega)
    rw [join_glue0, hm2] at hj2
    refine Ev.bind (f := fun k t151 => turntablelaw02_TokenBack.j0 k r1 m (t151.toList != (mk (glue (Texts r1))).toList)) hj2 ?_
    have hb : ((mk (glue (Texts r1))).toList != (mk (glue (Texts r1))).toList) = false := by simp
    rw [hb]
    refine Ev.step (f := fun k => turntablelaw02_TokenBack.l0 k r1 m ((0 : Nat) : Int)) (fun k => by simp [turntablelaw02_TokenBack.j0]) ?_
    exact back_loop r1 m hlen.symm (by omega) hm2 r1.length 0 (by omega)
end Go.Proofs.Ythnkgnbemmndgaa.Pure
