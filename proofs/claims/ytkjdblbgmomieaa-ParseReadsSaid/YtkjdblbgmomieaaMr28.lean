import Derived.ChangeArms
import Derived.ChangeOld
import Derived.OpenShut
import Derived.SizedLaws
import Derived.DataReads
import Derived.Test.YtkjdblbgmomieaaMr0
-- from YtkjdblbgmomieaaOpen
section
namespace Go.Proofs.Ytkjdblbgmomieaa.Open
open Go.Proofs.YtkjdblbgmomieaaW.PrintWords
section
variable {P : Program} {α β : Type}
end
end Go.Proofs.Ytkjdblbgmomieaa.Open
end
