import Derived.Test.YtkjdblbgmomieaaMr1
import Derived.ChangeKeysEq
-- from YtkjdblbgmomieaaZip
section
namespace Go.Proofs.Ytkjdblbgmomieaa.Zip
open Go.RowKit Go.Proofs.YtkjdblbgmomieaaW.PrintWords Go.Proofs.YtkjdblbgmomieaaW.PrintLast Go.Proofs.YtkjdblbgmomieaaW.PrintMore
set_option linter.unusedVariables false
theorem zR {P Q:Prop} (h:P) (q:P→Q:=by intro h_;(with_reducible repeat (first | apply Kd.R_alloc | apply Kd.R_drewN | apply Kd.R_drew));exact h_):Q:=q h
theorem zK {P Q:Prop} (h:P) (q:P→Q:=by intro h_;(with_reducible repeat (first | refine blk_drewN ?_ _ | refine blk_drew ?_ | refine blk_alloc ?_ _));exact h_):Q:=q h
theorem zB {P Q:Prop} (h:P) (q:P→Q:=by intro h_;repeat (first | (with_reducible first | exact h_ | apply below_alloc | apply pw_below_drewN | apply below_drew1) | exact h_)):Q:=q h
theorem zC {P Q G:Prop} (h:P) (g:G) (q:P→G→Q:=by intro h_ g_;repeat (first | (with_reducible first | exact h_ | apply below_alloc | apply pw_below_drewN | apply below_drew1 | refine below_set ?_ g_) | exact h_)):Q:=q h g
theorem zA {P:Prop} (q:P:=by (try simp only [List.map_toArray,List.map_cons,List.map_nil]);first | done | rfl | (simp only [List.length_drop,List.length_take];rfl)):P:=q
theorem zS {P:Prop} (q:P:=by first | (with_reducible assumption) | assumption):P:=q
theorem zF {P:Prop} (q:P:=by first | rfl | (simp [errW_none,errW_some]<;>rfl) | (simp [*,errW_none,errW_some]<;>rfl)):P:=q
theorem zQ {P:Prop} (q:P:=by repeat (first | exact Drawn0.refl _ | apply Drawn0.step)):P:=q
end Go.Proofs.Ytkjdblbgmomieaa.Zip
end
