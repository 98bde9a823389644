-- PRINTED BY print.sh 35421559b90ae4d0a3588c463048766b98c2df88dd9212a6774a882060cdf62d: not written by this session
import Derived.Test.YtmmjjkfiplllnaaProg
import Derived.Below
import Derived.Deep.Draws
import Derived.Deep.AppendLies
import Derived.Maps.AppendAt
import Derived.OwnWalk
import Derived.Laws.BytesArg
import Derived.Laws.MakeOwn
import Derived.Laws.OwnMore
import Derived.Deep.OwnRows
import Derived.Tactics
import Derived.Lib.ConvBytes
import Derived.Laws.Slices
import Derived.WalkKit
import Derived.KernelRfl
import Derived.RowKit3
import Derived.Deep.LoopGhost
import Derived.Deep.QuietTactic
import Derived.BigQuiet
import Derived.WideLaws
import Derived.Deep.DeepCutAuto
import Derived.Deep.CutBlock
import Derived.Deep.RegionHeld3
import Derived.Laws.Rows
import Derived.Lib.AppendStr
import Derived.ArgAppend
import Derived.Laws.IdiomCopy
import Derived.OrdersHeld
import Derived.Laws.BitsLemmas
import Derived.RowKit
import Derived.Test.YtmmjjkfiplllnaaWWords
import Derived.Test.YtmmjjkfiplllnaaWLast
import Derived.Test.YtmmjjkfiplllnaaWTab
import Derived.Test.YtmmjjkfiplllnaaWFour
import Derived.Test.YtmmjjkfiplllnaaWQPut
import Derived.Test.YtmmjjkfiplllnaaWApart
import Derived.Test.YtmmjjkfiplllnaaWArr
import Derived.Test.YtmmjjkfiplllnaaWZeros
import Derived.Test.YtmmjjkfiplllnaaWFoot
import Derived.Test.YtmmjjkfiplllnaaWKept
import Derived.Test.YtmmjjkfiplllnaaWShare
import Derived.Test.YtmmjjkfiplllnaaWN
import Derived.Test.YtmmjjkfiplllnaaWFootNe
import Derived.Test.YtmmjjkfiplllnaaWAt
import Derived.Test.YtmmjjkfiplllnaaWEqStruct
import Derived.Test.YtmmjjkfiplllnaaWRepsOne
import Derived.Test.YtmmjjkfiplllnaaWInv
import Derived.Test.YtmmjjkfiplllnaaWInvWords
import Derived.Test.YtmmjjkfiplllnaaWGuard
import Derived.Test.YtmmjjkfiplllnaaWNEv
import Derived.Test.YtmmjjkfiplllnaaWMore
namespace Go.Proofs.Ytmmjjkfiplllnaa.PFnVecSub
open Go.RowKit Go.Proofs.YtmmjjkfiplllnaaW.PrintWords Go.Proofs.YtmmjjkfiplllnaaW.PrintLast Go.Proofs.YtmmjjkfiplllnaaW.PrintMore
attribute [local go_sem] max2_int min2_int max_two min_two max_three min_three max_four min_four   -- for this text's walks alone
set_option linter.unusedVariables false
set_option linter.unusedSimpArgs false



def errW : Option Int → Value
  | none => .nilIface
  | some c => .iface 0 (.int .i64 c)
theorem errW_none : errW none = .nilIface := rfl
theorem errW_some (c : Int) : errW (some c) = .iface 0 (.int .i64 c) := rfl

theorem info3 : (Try.prog.info? 3).map (fun i => (i.zero, i.size, i.bytes)) = some (some (.int .i64 0), 1, 8) := by kernel_rfl
theorem info5 : (Try.prog.info? 5).map (fun i => (i.zero, i.size, i.bytes)) = some (some (.int .u8 0), 1, 1) := by kernel_rfl
-- the values' own types

end Go.Proofs.Ytmmjjkfiplllnaa.PFnVecSub
