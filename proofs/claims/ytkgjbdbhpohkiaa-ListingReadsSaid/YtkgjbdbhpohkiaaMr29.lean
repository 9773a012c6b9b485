import Derived.ChangeArms
import Derived.ChangeOld
import Derived.OpenShut
import Derived.SizedLaws
import Derived.DataReads
import Derived.Test.YtkgjbdbhpohkiaaMr0
-- from YtkgjbdbhpohkiaaOpen
section
namespace Go.Proofs.Ytkgjbdbhpohkiaa.Open
open Go.Proofs.YtkgjbdbhpohkiaaW.PrintWords
section
variable {P : Program} {α β : Type}
end
end Go.Proofs.Ytkgjbdbhpohkiaa.Open
end
