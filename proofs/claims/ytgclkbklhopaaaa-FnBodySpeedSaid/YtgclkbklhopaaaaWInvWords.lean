import Derived.Test.YtgclkbklhopaaaaWInv
import Derived.Test.YtgclkbklhopaaaaWFootNe
namespace Go.Proofs.YtgclkbklhopaaaaW.PrintWords
open Go.RowKit
end Go.Proofs.YtgclkbklhopaaaaW.PrintWords
namespace Go.Proofs.YtgclkbklhopaaaaW.PrintLast
section
variable {ops : Array Oper} {a : Act} {o og : Oper} {g : Nat} {t : Tmp} {u : Bool}
end
end Go.Proofs.YtgclkbklhopaaaaW.PrintLast
