import Derived.Test.YtdngjedhbnoaoaaWInv
import Derived.Test.YtdngjedhbnoaoaaWFootNe
namespace Go.Proofs.YtdngjedhbnoaoaaW.PrintWords
open Go.RowKit
end Go.Proofs.YtdngjedhbnoaoaaW.PrintWords
namespace Go.Proofs.YtdngjedhbnoaoaaW.PrintLast
section
variable {ops : Array Oper} {a : Act} {o og : Oper} {g : Nat} {t : Tmp} {u : Bool}
end
end Go.Proofs.YtdngjedhbnoaoaaW.PrintLast
