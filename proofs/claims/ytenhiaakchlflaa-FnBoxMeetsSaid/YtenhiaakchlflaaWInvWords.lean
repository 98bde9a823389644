import Derived.Test.YtenhiaakchlflaaWInv
import Derived.Test.YtenhiaakchlflaaWFootNe
namespace Go.Proofs.YtenhiaakchlflaaW.PrintWords
open Go.RowKit
end Go.Proofs.YtenhiaakchlflaaW.PrintWords
namespace Go.Proofs.YtenhiaakchlflaaW.PrintLast
section
variable {ops : Array Oper} {a : Act} {o og : Oper} {g : Nat} {t : Tmp} {u : Bool}
end
end Go.Proofs.YtenhiaakchlflaaW.PrintLast
