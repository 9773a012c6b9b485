import Derived.Test.YtpjehipemljkpaaWInv
import Derived.Test.YtpjehipemljkpaaWFootNe
namespace Go.Proofs.YtpjehipemljkpaaW.PrintWords
open Go.RowKit
end Go.Proofs.YtpjehipemljkpaaW.PrintWords
namespace Go.Proofs.YtpjehipemljkpaaW.PrintLast
section
variable {ops : Array Oper} {a : Act} {o og : Oper} {g : Nat} {t : Tmp} {u : Bool}
end
end Go.Proofs.YtpjehipemljkpaaW.PrintLast

