import Derived.Test.YtihajbjkjclmoaaWInv
import Derived.Test.YtihajbjkjclmoaaWFootNe
namespace Go.Proofs.YtihajbjkjclmoaaW.PrintWords
open Go.RowKit
end Go.Proofs.YtihajbjkjclmoaaW.PrintWords
namespace Go.Proofs.YtihajbjkjclmoaaW.PrintLast
section
variable {ops : Array Oper} {a : Act} {o og : Oper} {g : Nat} {t : Tmp} {u : Bool}
end
end Go.Proofs.YtihajbjkjclmoaaW.PrintLast
