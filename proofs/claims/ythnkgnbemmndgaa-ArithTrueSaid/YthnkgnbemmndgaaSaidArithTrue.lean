-- PRINTED by a turned copy of the kit's print (patch_print.py); not typed by hand. Lean checks it.
import Derived.Test.YthnkgnbemmndgaaHTrue
import Derived.Test.YthnkgnbemmndgaaOpen
import Derived.KernelRfl
namespace Go.Proofs.Ythnkgnbemmndgaa.ArithTrueSaid
open Go.RowKit Go.Proofs.Ythnkgnbemmndgaa.PAt Go.Proofs.Ythnkgnbemmndgaa.Open Go.Proofs.YthnkgnbemmndgaaW.PrintWords Go.Proofs.YthnkgnbemmndgaaW.PrintLast
set_option linter.unusedVariables false
def good27 (x : S27) : Prop := (True) ∧ (True)
theorem open27 : Opens Try.prog k27 27 good27 := Opens.imp (opens_array (g := fun p => ⟨p.1, p.2⟩) Try.underlying27 (by kernel_rfl) (by kernel_rfl) (opensF_cons (off := 0) (off' := 1) (opens_bool Try.underlying4) (by kernel_rfl) (by kernel_rfl) (opensF_one (off := 1) (opens_bool Try.underlying4) (by kernel_rfl))) (fun _ => rfl)) (fun b h => h)
def good28 (x : S28) : Prop := ((Lit.int .i64 x.f0).wf = true) ∧ ((Lit.int .i64 x.f1).wf = true)
theorem open28 : Opens Try.prog k28 28 good28 := Opens.imp (opens_array (g := fun p => ⟨p.1, p.2⟩) Try.underlying28 (by kernel_rfl) (by kernel_rfl) (opensF_cons (off := 0) (off' := 1) (opens_int Try.underlying2) (by kernel_rfl) (by kernel_rfl) (opensF_one (off := 1) (opens_int Try.underlying2) (by kernel_rfl))) (fun _ => rfl)) (fun b h => h)
def ArithTrue.Good : Prop := ∀ (a0 : Int) (a1 : S27) (a2 : S28) (a3 : Int) (a4 : Int), ((Lit.int .i64 a0).wf = true) → (good27 a1) → (good28 a2) → ((Lit.int .i64 a3).wf = true) → ((Lit.int .i64 a4).wf = true) → ∃ k, turntablelaw04_ArithTrue.f k a0 a1.f0 a1.f1 a2.f0 a2.f1 a3 a4 = some true
end Go.Proofs.Ythnkgnbemmndgaa.ArithTrueSaid
