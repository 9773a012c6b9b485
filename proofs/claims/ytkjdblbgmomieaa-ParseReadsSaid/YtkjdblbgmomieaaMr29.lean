import Derived.Test.YtkjdblbgmomieaaMr27
import Derived.Test.YtkjdblbgmomieaaMr28
import Derived.KernelRfl
import Derived.Test.YtkjdblbgmomieaaMr26
import Derived.Test.YtkjdblbgmomieaaRows
import Derived.WalkKit
import Derived.ProofKit
import Derived.OpenShut
import Derived.ShutString
import Derived.ChangeOld
import Derived.Below
import Derived.SizedLaws
-- from YtkjdblbgmomieaaSaidParseReads
section
namespace Go.Proofs.Ytkjdblbgmomieaa.ParseReadsSaid
open Go.RowKit Go.Proofs.Ytkjdblbgmomieaa.PSh Go.Proofs.Ytkjdblbgmomieaa.Open Go.Proofs.YtkjdblbgmomieaaW.PrintWords Go.Proofs.YtkjdblbgmomieaaW.PrintLast
set_option linter.unusedVariables false
def ParseReads.Good:Prop:=∀ (a0:ByteArray),(a0.size≤140737488351232)→∃ k,l06_ParseReads.f k a0=some true
end Go.Proofs.Ytkjdblbgmomieaa.ParseReadsSaid
end
-- from YtkjdblbgmomieaaPureParseReads
section
namespace Go.Proofs.Ytkjdblbgmomieaa.Pure
open Go.RowKit Go.Proofs.Ytkjdblbgmomieaa.PSh Go.Proofs.Ytkjdblbgmomieaa.ParseReadsSaid Go.Proofs.YtkjdblbgmomieaaW.PrintWords Go.Proofs.YtkjdblbgmomieaaW.PrintLast Go.Proofs.Ytkjdblbgmomieaa.Str
set_option linter.unusedVariables false
theorem ParseReads:ParseReads.Good:=by
  intro s _
  refine ⟨0,?_⟩
  unfold l06_ParseReads.f
  by_cases h:2500<s.size
  · rw [if_pos h]
  · rw [if_neg h,if_pos (split_facts (by omega)).1]
end Go.Proofs.Ytkjdblbgmomieaa.Pure
end
-- from YtkjdblbgmomieaaLawParseReads
section
namespace Go.Proofs.Ytkjdblbgmomieaa.parseReads
set_option maxHeartbeats 4000000
set_option maxRecDepth 100000
open Go.ChangeShapes Go.WideShapes Go.ChangeAt Go.RowKit
open Go.ChangeMaps (open_string shut_string)
open Go.Proofs.Ytkjdblbgmomieaa.PSh Go.Proofs.Ytkjdblbgmomieaa.Open Go.Proofs.Ytkjdblbgmomieaa.ParseReadsSaid
set_option linter.unusedVariables false
theorem own:ownKnob Try.prog.godebug=none:=by kernel_rfl
theorem laidOut:laidOutB Try.prog=true:=by kernel_rfl
theorem lifted (os:Os) (started:os.Started) (H:Type) (enc:TypeId × Value→H):
    ReturnsInHanded {} Try.checked os 5 .any (Rows.parseReadsSpec.pre6 enc Try.prog Try.f5 Rows.parseReadsRow.domain false) (Rows.parseReadsSpec.post enc Try.prog Try.f5 false true false false):=by
  refine returnsInHanded_of_change_sized (C:=Try.checked) own started (by kernel_rfl) Try.func5
    (ChangeSpec.witness6 (enc:=enc) (C:=Try.checked) false ⟨#[],#[.string ByteArray.empty],[]⟩ 8 (by kernel_rfl) (by kernel_rfl) (by kernel_rfl) (by kernel_rfl)) ?_
  intro W base args ds gs before hval0 hW hcnd hsz0 _
  have hsz:(DataW.weightsEach Try.prog (Try.f5.params.toList++Rows.parseReadsSpec.plain.varTypes Try.prog) (ds++gs)).all (·≤reachBytes)=true:=hsz0
  have hval:∀ (j:Nat) t v,Try.f5.params[j]?=some t→args[j]?=some v→Value.okWide Try.prog W .any base t v:=hval0
  have hW':=hW
  obtain ⟨p,q,hA0,hV,rfl,hfz,hnd⟩:=hW
  have hA:DataW.TrodAll enc Try.prog W 0 (fun _=>true) true Try.f5.params.toList args.toList ds p:=hA0
  rw [Try.params5] at hA hval hsz
  obtain ⟨v0,vs0,d0,ds0,p0,q0,hargs,rfl,rfl,h0,r0⟩:=trodAll_cons hA
  obtain ⟨rfl,rfl,rfl⟩:=trodAll_nil r0
  obtain rfl:args=#[v0]:=by cases args;simp_all
  obtain ⟨rfl,rfl⟩:=trodVars_none hV
  obtain ⟨a0,rfl,rfl,rfl,y0⟩:=open_string Try.underlying9 (hval 0 9 v0 rfl rfl) h0
  have w0:a0.size≤140737488351232:=by
    have z:=sized_string hsz (j:=0) (t:=9) rfl rfl
    rw [Array.length_toList] at z
    exact z
  clear hA0 hval0 hsz0 hsz
  obtain ⟨k,hk⟩:=Pure.ParseReads a0 w0
  refine (l06_ParseReads.calls k a0 true W hk).mono ?_
  rintro e W' ⟨rfl,hd_⟩
  have bel:Below W.heap.size W W':=hd_
  exact ⟨_,rfl,_,_,_,[],_,[],hW',trodAll_mk1 (shut_bool Try.underlying4 _),(trodAll_cons_mk (shut_string Try.underlying9 y0) trodAll_mk0),rfl,bel.frame _,fun h=>by cases h⟩
theorem over:Rows.parseReadsRow.holds Try.pinned (OpenSpec.ofChange Rows.parseReadsSpec):=
  OpenClaim.holds_of_wide 5 Try.f5 rfl rfl rfl rfl rfl rfl rfl ⟨rfl,rfl,rfl,rfl,rfl⟩ rfl rfl rfl rfl rfl (by kernel_rfl) Try.func5 (by kernel_rfl)
    (of_decide_eq_true (by kernel_rfl)) (by unfold Func.isWrapper;first | (rw [if_pos (by decide+kernel)];kernel_rfl) | (rw [if_neg (by decide+kernel)];exact ⟨rfl,rfl⟩))
    (fun os started H enc _=>lifted os started H enc)
theorem proved:Rows.ParseReadsSaid:=over
#print axioms proved
end Go.Proofs.Ytkjdblbgmomieaa.parseReads
namespace Go.Proofs.Ytkjdblbgmomieaa
theorem parseReads_holds:Rows.ParseReadsSaid:=parseReads.proved
end Go.Proofs.Ytkjdblbgmomieaa
end
