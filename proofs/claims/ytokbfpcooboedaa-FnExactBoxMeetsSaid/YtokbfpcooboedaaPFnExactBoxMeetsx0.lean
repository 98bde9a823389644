-- PRINTED BY print.sh 35421559b90ae4d0a3588c463048766b98c2df88dd9212a6774a882060cdf62d: not written by this session
import Derived.Test.YtokbfpcooboedaaProg
import Derived.Below
import Derived.Deep.Draws
import Derived.Deep.AppendLies
import Derived.Maps.AppendAt
import Derived.OwnWalk
import Derived.Laws.BytesArg
import Derived.Laws.MakeOwn
import Derived.Laws.OwnMore
import Derived.Deep.OwnRows
import Derived.Tactics
import Derived.Lib.ConvBytes
import Derived.Laws.Slices
import Derived.WalkKit
import Derived.KernelRfl
import Derived.RowKit3
import Derived.Deep.LoopGhost
import Derived.Deep.QuietTactic
import Derived.BigQuiet
import Derived.WideLaws
import Derived.Deep.DeepCutAuto
import Derived.Deep.CutBlock
import Derived.Deep.RegionHeld3
import Derived.Laws.Rows
import Derived.Lib.AppendStr
import Derived.ArgAppend
import Derived.Laws.IdiomCopy
import Derived.OrdersHeld
import Derived.Laws.BitsLemmas
import Derived.RowKit
import Derived.Test.YtokbfpcooboedaaWWords
import Derived.Test.YtokbfpcooboedaaWLast
import Derived.Test.YtokbfpcooboedaaWTab
import Derived.Test.YtokbfpcooboedaaWFour
import Derived.Test.YtokbfpcooboedaaWQPut
import Derived.Test.YtokbfpcooboedaaWApart
import Derived.Test.YtokbfpcooboedaaWArr
import Derived.Test.YtokbfpcooboedaaWZeros
import Derived.Test.YtokbfpcooboedaaWFoot
import Derived.Test.YtokbfpcooboedaaWKept
import Derived.Test.YtokbfpcooboedaaWShare
import Derived.Test.YtokbfpcooboedaaWN
import Derived.Test.YtokbfpcooboedaaWFootNe
import Derived.Test.YtokbfpcooboedaaWAt
import Derived.Test.YtokbfpcooboedaaWEqStruct
import Derived.Test.YtokbfpcooboedaaWRepsOne
import Derived.Test.YtokbfpcooboedaaWInv
import Derived.Test.YtokbfpcooboedaaWInvWords
import Derived.Test.YtokbfpcooboedaaWGuard
import Derived.Test.YtokbfpcooboedaaWNEv
import Derived.Test.YtokbfpcooboedaaWMore
namespace Go.Proofs.Ytokbfpcooboedaa.PFnExactBoxMeets
open Go.RowKit Go.Proofs.YtokbfpcooboedaaW.PrintWords Go.Proofs.YtokbfpcooboedaaW.PrintLast Go.Proofs.YtokbfpcooboedaaW.PrintMore
attribute [local go_sem] max2_int min2_int max_two min_two max_three min_three max_four min_four   -- for this text's walks alone
set_option linter.unusedVariables false
set_option linter.unusedSimpArgs false



def errW : Option Int → Value
  | none => .nilIface
  | some c => .iface 0 (.int .i64 c)
theorem errW_none : errW none = .nilIface := rfl
theorem errW_some (c : Int) : errW (some c) = .iface 0 (.int .i64 c) := rfl

-- the values' own types

end Go.Proofs.Ytokbfpcooboedaa.PFnExactBoxMeets
