/- Each number's digits are read as that number, and each text that is read as a number has just that number's digits; no conditions. -/
import Derived.Test.YthnkgnbemmndgaaDigLaw2
namespace Go.Proofs.Ythnkgnbemmndgaa.Pure
set_option linter.unusedSimpArgs false
open Go.RowKit Go.Proofs.Ythnkgnbemmndgaa.PDg Go.Proofs.YthnkgnbemmndgaaW.PrintWords Go.Proofs.YthnkgnbemmndgaaW.PrintLast Go.Proofs.YthnkgnbemmndgaaW.PrintMore Go.Proofs.Ythnkgnbemmndgaa.Str Go.Proofs.Ythnkgnbemmndgaa.Dig Go.Proofs.Ythnkgnbemmndgaa.DigLaw

theorem DigitsBack : turntablelaw01_DigitsBack.Pure := by
  intro a s ha hs
  obtain ⟨a0, a1⟩ := i64_bounds ha
  refine Ev.rounds ?_
  rw [mk_data s]
  generalize hl : s.data.toList = l
  have hlen : l.length ≤ 140737488351232 := by rw [← hl]; exact hs
  clear hl
  unfold turntablelaw01_DigitsBack.f
  refine ev_if (fun h => Ev.bind works_ev (Ev.now _)) (fun h => ?_)
  refine ev_some (print_some a a0 a1) ?_
  have hd : (digs a).length ≤ 100 := by
    have := pd_len 30 a.natAbs (by omega)
    unfold digs
    split
    · simp
    · split <;> simp <;> omega
  refine Ev.bind (parse_ev (digs a) (by omega)) ?_
  rw [parse_digs a a0 a1]
  refine ev_pos rfl ?_
  refine Ev.step (f := fun k => (digits_Parse.f k (mk l)).bind fun bt147 => (if bt147.2 = 0 then ((digits_Print.f bt147.1).bind fun t149 => (if t149.toList = (mk l).toList then ((turntablelaw01_works.f k).bind fun t150 => (some t150)) else (some false))) else ((turntablelaw01_works.f k).bind fun t151 => (some t151)))) (fun k => by simp [turntablelaw01_DigitsBack.j0]) ?_
  refine Ev.bind (parse_ev l (by omega)) ?_
  refine ev_if (fun h2 => ?_) (fun h2 => Ev.bind works_ev (Ev.now _))
  obtain ⟨e1, e2, e3⟩ := digs_parse l (parseL l).1 (by rw [← h2])
  refine ev_some (print_some _ e2 e3) ?_
  rw [e1]
  exact ev_pos rfl (Ev.bind works_ev (Ev.now _))

end Go.Proofs.Ythnkgnbemmndgaa.Pure
