-- PRINTED by a turned copy of the kit's print (patch_print.py); not typed by hand. Lean checks it.
import Derived.Test.YthnkgnbemmndgaaPDgx0
import Derived.Test.YthnkgnbemmndgaaPDgx1
import Derived.Test.YthnkgnbemmndgaaPDgx2
import Derived.Test.YthnkgnbemmndgaaPDgx3
import Derived.Test.YthnkgnbemmndgaaPDgx4
import Derived.Test.YthnkgnbemmndgaaPDgx5
namespace Go.Proofs.Ythnkgnbemmndgaa.PDg
open Go.RowKit Go.Proofs.YthnkgnbemmndgaaW.PrintWords Go.Proofs.YthnkgnbemmndgaaW.PrintLast Go.Proofs.YthnkgnbemmndgaaW.PrintMore
attribute [local go_sem] max2_int min2_int max_two min_two max_three min_three max_four min_four   -- for this text's walks alone
set_option linter.unusedVariables false
set_option linter.unusedSimpArgs false

end Go.Proofs.Ythnkgnbemmndgaa.PDg
