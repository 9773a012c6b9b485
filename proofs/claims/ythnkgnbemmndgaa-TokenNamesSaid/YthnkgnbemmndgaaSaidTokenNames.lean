-- PRINTED by a turned copy of the kit's print (patch_print.py); not typed by hand. Lean checks it.
import Derived.Test.YthnkgnbemmndgaaPTkx4
import Derived.Test.YthnkgnbemmndgaaOpen
import Derived.KernelRfl
namespace Go.Proofs.Ythnkgnbemmndgaa.TokenNamesSaid
open Go.RowKit Go.Proofs.Ythnkgnbemmndgaa.PTk Go.Proofs.Ythnkgnbemmndgaa.Open Go.Proofs.YthnkgnbemmndgaaW.PrintWords Go.Proofs.YthnkgnbemmndgaaW.PrintLast
set_option linter.unusedVariables false
def good46 (x : S46) : Prop := (x.f0.size ≤ 140737488351232) ∧ ((Lit.int .i64 x.f1).wf = true)
theorem open46 : Opens Try.prog k46 46 good46 := Opens.imp (opens_struct (g := fun p => ⟨p.1, p.2⟩) Try.underlying46 (by kernel_rfl) (opensF_cons (off := 0) (off' := 1) (opens_string Try.underlying9) (by kernel_rfl) (by kernel_rfl) (opensF_one (off := 1) (opens_int Try.underlying3) (by kernel_rfl))) (fun _ => rfl)) (fun b h => h)
def TokenNames.Good : Prop := ∀ (a0 : ByteArray) (a1 : List (S46)), (a0.size ≤ 140737488351232) → (a1.length * 24 ≤ 140737488351232 ∧ ∀ x_ ∈ a1, good46 x_) → ∃ k, turntablelaw02_TokenNames.f k a0 a1 = some true
end Go.Proofs.Ythnkgnbemmndgaa.TokenNamesSaid
