-- PRINTED by a turned copy of the kit's print (patch_print.py); not typed by hand. Lean checks it.
import Derived.Test.YtcpomchijogblaaHDoes
import Derived.Test.YtcpomchijogblaaOpen
import Derived.KernelRfl
namespace Go.Proofs.Ytcpomchijogblaa.PoolDoesSaid
open Go.RowKit Go.Proofs.Ytcpomchijogblaa.PPo Go.Proofs.Ytcpomchijogblaa.Open Go.Proofs.YtcpomchijogblaaW.PrintWords Go.Proofs.YtcpomchijogblaaW.PrintLast
set_option linter.unusedVariables false
def good25 (x : S25) : Prop := ((Lit.int .i64 x.f0).wf = true) ∧ ((Lit.int .i64 x.f1).wf = true) ∧ ((Lit.int .i64 x.f2).wf = true) ∧ (True) ∧ ((Lit.int .i64 x.f4).wf = true) ∧ ((Lit.int .u16 x.f5).wf = true)
theorem open25 : Opens Try.prog k25 25 good25 := Opens.imp (opens_struct (g := fun p => ⟨p.1, p.2.1, p.2.2.1, p.2.2.2.1, p.2.2.2.2.1, p.2.2.2.2.2⟩) Try.underlying25 (by kernel_rfl) (opensF_cons (off := 0) (off' := 1) (opens_int Try.underlying3) (by kernel_rfl) (by kernel_rfl) (opensF_cons (off := 1) (off' := 2) (opens_int Try.underlying3) (by kernel_rfl) (by kernel_rfl) (opensF_cons (off := 2) (off' := 3) (opens_int Try.underlying3) (by kernel_rfl) (by kernel_rfl) (opensF_cons (off := 3) (off' := 4) (opens_bool Try.underlying4) (by kernel_rfl) (by kernel_rfl) (opensF_cons (off := 4) (off' := 5) (opens_int Try.underlying2) (by kernel_rfl) (by kernel_rfl) (opensF_one (off := 5) (opens_int Try.underlying23) (by kernel_rfl))))))) (fun _ => rfl)) (fun b h => h)
def PoolDoes.Good : Prop := ∀ (a0 : List (S25)) (a1 : Int) (a2 : Int), (a0.length * 48 ≤ 140737488351232 ∧ ∀ x_ ∈ a0, good25 x_) → ((Lit.int .i64 a1).wf = true) → ((Lit.int .i64 a2).wf = true) → turntablelaw12_PoolDoes.f a0 a1 a2 = some true
end Go.Proofs.Ytcpomchijogblaa.PoolDoesSaid
