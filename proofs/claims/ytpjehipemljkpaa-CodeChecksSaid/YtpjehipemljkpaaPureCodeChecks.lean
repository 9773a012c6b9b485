/- Whether any bodies may be, and what is wrong first, as the program's code.Check tells it, is what the reference tells. -/
import Derived.Test.YtpjehipemljkpaaSaidCodeChecks
import Derived.Test.YtpjehipemljkpaaCodeLaw
namespace Go.Proofs.Ytpjehipemljkpaa.Pure
open Go.RowKit Go.Proofs.Ytpjehipemljkpaa.PCo Go.Proofs.Ytpjehipemljkpaa.CodeChecksSaid Go.Proofs.YtpjehipemljkpaaW.PrintWords Go.Proofs.YtpjehipemljkpaaW.PrintLast Go.Proofs.Ytpjehipemljkpaa.Str Go.Proofs.Ytpjehipemljkpaa.CodeLaw

theorem code_works : Ev (fun k => turntablelaw33_works.f k) true :=
  Ev.of (fun k => turntablelaw33_works.mono k) (k := 30) (by decide +kernel)

theorem fit_of {f : S47} (h : good47 f) : Fit f :=
  ⟨by have := h.1.1; omega, by have := h.2.2.1; omega, fun x hx => by have := (h.2.2.2 x hx).2.2.2.2.2.1.1; omega⟩

theorem code_light (l : List S47) (hl : l.length * 56 ≤ 140737488351232) (hg : ∀ x_ ∈ l, good47 x_) : ∃ b, Ev (fun k => turntablelaw33_light.f k l) b :=
  light_any l (by omega) (fun i h0 h1 => by
    obtain ⟨n, rfl⟩ : ∃ n : Nat, i = n := ⟨i.toNat, by omega⟩
    rw [rd47_at l n (by omega)]
    exact (fit_of (hg _ (List.getElem_mem (by omega)))).c)

theorem CodeChecks : CodeChecks.Good := by
  rintro l ⟨hl, hg⟩
  have hf : ∀ f ∈ l, Fit f := fun f h => fit_of (hg f h)
  obtain ⟨b, hb⟩ := code_light l hl hg
  refine Ev.rounds (g := fun k => turntablelaw33_CodeChecks.f k l) ?_
  unfold turntablelaw33_CodeChecks.f
  refine ev_bind' hb ?_
  cases b
  · exact ev_neg (by simp) (ev_bind' code_works (Ev.now _))
  · refine ev_pos rfl (ev_bind' (prog_chk l hf) (ev_bind' (ref_chk l hf) (ev_pos (by simp) (ev_bind' code_works (Ev.now _)))))
end Go.Proofs.Ytpjehipemljkpaa.Pure
