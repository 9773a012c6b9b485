-- PRINTED by a turned copy of the kit's print (patch_print.py); not typed by hand. Lean checks it.
import Derived.Test.YthnkgnbemmndgaaProg
import Derived.Below
import Derived.Deep.Draws
import Derived.Deep.AppendLies
import Derived.Maps.AppendAt
import Derived.OwnWalk
import Derived.Laws.BytesArg
import Derived.Laws.MakeOwn
import Derived.Laws.OwnMore
import Derived.Deep.OwnRows
import Derived.Tactics
import Derived.Lib.ConvBytes
import Derived.Laws.Slices
import Derived.WalkKit
import Derived.KernelRfl
import Derived.RowKit3
import Derived.Deep.LoopGhost
import Derived.Deep.QuietTactic
import Derived.BigQuiet
import Derived.WideLaws
import Derived.Deep.DeepCutAuto
import Derived.Deep.CutBlock
import Derived.Deep.RegionHeld3
import Derived.Laws.Rows
import Derived.Lib.AppendStr
import Derived.ArgAppend
import Derived.Laws.IdiomCopy
import Derived.OrdersHeld
import Derived.Laws.BitsLemmas
import Derived.RowKit
import Derived.Test.YthnkgnbemmndgaaWWords
import Derived.Test.YthnkgnbemmndgaaWLast
import Derived.Test.YthnkgnbemmndgaaWTab
import Derived.Test.YthnkgnbemmndgaaWFour
import Derived.Test.YthnkgnbemmndgaaWQPut
import Derived.Test.YthnkgnbemmndgaaWApart
import Derived.Test.YthnkgnbemmndgaaWArr
import Derived.Test.YthnkgnbemmndgaaWZeros
import Derived.Test.YthnkgnbemmndgaaWFoot
import Derived.Test.YthnkgnbemmndgaaWKept
import Derived.Test.YthnkgnbemmndgaaWShare
import Derived.Test.YthnkgnbemmndgaaWN
import Derived.Test.YthnkgnbemmndgaaWFootNe
import Derived.Test.YthnkgnbemmndgaaWAt
import Derived.Test.YthnkgnbemmndgaaWEqStruct
import Derived.Test.YthnkgnbemmndgaaWRepsOne
import Derived.Test.YthnkgnbemmndgaaWInv
import Derived.Test.YthnkgnbemmndgaaWInvWords
import Derived.Test.YthnkgnbemmndgaaWGuard
import Derived.Test.YthnkgnbemmndgaaWNEv
import Derived.Test.YthnkgnbemmndgaaWMore
namespace Go.Proofs.Ythnkgnbemmndgaa.PDg
open Go.RowKit Go.Proofs.YthnkgnbemmndgaaW.PrintWords Go.Proofs.YthnkgnbemmndgaaW.PrintLast Go.Proofs.YthnkgnbemmndgaaW.PrintMore
attribute [local go_sem] max2_int min2_int max_two min_two max_three min_three max_four min_four   -- for this text's walks alone
set_option linter.unusedVariables false
set_option linter.unusedSimpArgs false



def errW : Option Int → Value
  | none => .nilIface
  | some c => .iface 0 (.int .i64 c)
theorem errW_none : errW none = .nilIface := rfl
theorem errW_some (c : Int) : errW (some c) = .iface 0 (.int .i64 c) := rfl

theorem info5 : (Try.prog.info? 5).map (fun i => (i.zero, i.size, i.bytes)) = some (some (.int .u8 0), 1, 1) := by kernel_rfl
-- the values' own types

end Go.Proofs.Ythnkgnbemmndgaa.PDg
