/-
  No cell of these rows narrows 'for every input' (looked for: loops, veiled, ifaces, maps, wideKeys, modest, calm, conditions, laid).
  DERIVED. THE GIVEN ROWS OF THIS SEAT. 9 by the template 'for every input the law returns true; each argument reads behind the call as it read before'; 0 by the template 'total and deterministic' (their statements: YtihajbjkjclmoaaTotals.lean).
  GIVEN WITH THE SEED: the statements are not yours to turn. If you find one false, say at which input.
  Laid BY PROGRAM, IN A SANDBOX (cutbox-rows.mjs): the forced cells as the released guide's own fill.sh prints them over the translation 3af30bd5389ca0c0… (all of the seat's roots in one cut). By AI agents, Wed Nov 11 2026. No macro, syntax, notation, axiom, sorry.
-/
import Derived.Test.YtihajbjkjclmoaaChecked
import GoSem.Claim
import GoSem.ClaimJoined
import GoSem.ClaimMapViews
import Derived.JoinedTies
import Derived.KernelRfl
namespace Go.Proofs.Ytihajbjkjclmoaa
/- THE CELL 'sum', in the pinned program and in every row, IS THE sha256 OF THE DUMP (.gsa) THAT YtihajbjkjclmoaaProg.lean LOADS. Nothing in Lean hashes anything: it is a label: what it is worth is what the hold of that sum in a sandbox is worth. -/
noncomputable def Try.pinned : Pinned := { name := "ytihajbjkjclmoaa", sum := "3af30bd5389ca0c0c24df51053b2e973aaf22112971a56f97be998c2821950eb", checked := Try.checked }
namespace Rows
def none {H : Type} : Left H := { results := [], args := [] }

/-- 'laws.FnBoxBoth': WHATEVER THE INPUT: true; the input reads as it did. -/
def fnBoxBothSpec : ChangeSpec := { name := "fnBoxBoth", fn := fun _ => fun
  | [d] => { results := [.lit (.bool true)], args := [d] }
  | _ => none }
def fnBoxBothRow : OpenClaim := { program := "ytihajbjkjclmoaa", sum := "3af30bd5389ca0c0c24df51053b2e973aaf22112971a56f97be998c2821950eb", func := "loop.example/parquetry/laws.FnBoxBoth", spec := "fnBoxBoth", apart := false }
def FnBoxBothSaid : Prop := fnBoxBothRow.holds Try.pinned (OpenSpec.ofChange fnBoxBothSpec)

/-- ITS FALSE NEIGHBOUR: 'it returns false'. Refute it at one input. -/
def fnBoxBothWrong : ChangeSpec := { name := "fnBoxBoth", fn := fun _ => fun
  | [d] => { results := [.lit (.bool false)], args := [d] }
  | _ => none }
def FnBoxBothWrongFalsely : Prop := fnBoxBothRow.holds Try.pinned (OpenSpec.ofChange fnBoxBothWrong)

/-- 'laws.FnExactBodyPush': WHATEVER THE INPUT: true; the input reads as it did. -/
def fnExactBodyPushSpec : ChangeSpec := { name := "fnExactBodyPush", fn := fun _ => fun
  | [d1, d2] => { results := [.lit (.bool true)], args := [d1, d2] }
  | _ => none }
def fnExactBodyPushRow : OpenClaim := { program := "ytihajbjkjclmoaa", sum := "3af30bd5389ca0c0c24df51053b2e973aaf22112971a56f97be998c2821950eb", func := "loop.example/parquetry/laws.FnExactBodyPush", spec := "fnExactBodyPush", apart := false }
def FnExactBodyPushSaid : Prop := fnExactBodyPushRow.holds Try.pinned (OpenSpec.ofChange fnExactBodyPushSpec)

/-- ITS FALSE NEIGHBOUR: 'it returns false'. Refute it at one input. -/
def fnExactBodyPushWrong : ChangeSpec := { name := "fnExactBodyPush", fn := fun _ => fun
  | [d1, d2] => { results := [.lit (.bool false)], args := [d1, d2] }
  | _ => none }
def FnExactBodyPushWrongFalsely : Prop := fnExactBodyPushRow.holds Try.pinned (OpenSpec.ofChange fnExactBodyPushWrong)

/-- 'laws.FnExactBodyMove': WHATEVER THE INPUT: true; the input reads as it did. -/
def fnExactBodyMoveSpec : ChangeSpec := { name := "fnExactBodyMove", fn := fun _ => fun
  | [d] => { results := [.lit (.bool true)], args := [d] }
  | _ => none }
def fnExactBodyMoveRow : OpenClaim := { program := "ytihajbjkjclmoaa", sum := "3af30bd5389ca0c0c24df51053b2e973aaf22112971a56f97be998c2821950eb", func := "loop.example/parquetry/laws.FnExactBodyMove", spec := "fnExactBodyMove", apart := false }
def FnExactBodyMoveSaid : Prop := fnExactBodyMoveRow.holds Try.pinned (OpenSpec.ofChange fnExactBodyMoveSpec)

/-- ITS FALSE NEIGHBOUR: 'it returns false'. Refute it at one input. -/
def fnExactBodyMoveWrong : ChangeSpec := { name := "fnExactBodyMove", fn := fun _ => fun
  | [d] => { results := [.lit (.bool false)], args := [d] }
  | _ => none }
def FnExactBodyMoveWrongFalsely : Prop := fnExactBodyMoveRow.holds Try.pinned (OpenSpec.ofChange fnExactBodyMoveWrong)

/-- 'laws.FnBodyPush': WHATEVER THE INPUT: true; the input reads as it did. -/
def fnBodyPushSpec : ChangeSpec := { name := "fnBodyPush", fn := fun _ => fun
  | [d] => { results := [.lit (.bool true)], args := [d] }
  | _ => none }
def fnBodyPushRow : OpenClaim := { program := "ytihajbjkjclmoaa", sum := "3af30bd5389ca0c0c24df51053b2e973aaf22112971a56f97be998c2821950eb", func := "loop.example/parquetry/laws.FnBodyPush", spec := "fnBodyPush", apart := false }
def FnBodyPushSaid : Prop := fnBodyPushRow.holds Try.pinned (OpenSpec.ofChange fnBodyPushSpec)

/-- ITS FALSE NEIGHBOUR: 'it returns false'. Refute it at one input. -/
def fnBodyPushWrong : ChangeSpec := { name := "fnBodyPush", fn := fun _ => fun
  | [d] => { results := [.lit (.bool false)], args := [d] }
  | _ => none }
def FnBodyPushWrongFalsely : Prop := fnBodyPushRow.holds Try.pinned (OpenSpec.ofChange fnBodyPushWrong)

/-- 'laws.FnBodyMove': WHATEVER THE INPUT: true; the input reads as it did. -/
def fnBodyMoveSpec : ChangeSpec := { name := "fnBodyMove", fn := fun _ => fun
  | [d] => { results := [.lit (.bool true)], args := [d] }
  | _ => none }
def fnBodyMoveRow : OpenClaim := { program := "ytihajbjkjclmoaa", sum := "3af30bd5389ca0c0c24df51053b2e973aaf22112971a56f97be998c2821950eb", func := "loop.example/parquetry/laws.FnBodyMove", spec := "fnBodyMove", apart := false }
def FnBodyMoveSaid : Prop := fnBodyMoveRow.holds Try.pinned (OpenSpec.ofChange fnBodyMoveSpec)

/-- ITS FALSE NEIGHBOUR: 'it returns false'. Refute it at one input. -/
def fnBodyMoveWrong : ChangeSpec := { name := "fnBodyMove", fn := fun _ => fun
  | [d] => { results := [.lit (.bool false)], args := [d] }
  | _ => none }
def FnBodyMoveWrongFalsely : Prop := fnBodyMoveRow.holds Try.pinned (OpenSpec.ofChange fnBodyMoveWrong)

/-- 'laws.FnExactTouch': WHATEVER THE INPUT: true; the input reads as it did. -/
def fnExactTouchSpec : ChangeSpec := { name := "fnExactTouch", fn := fun _ => fun
  | [d1, d2, d3, d4] => { results := [.lit (.bool true)], args := [d1, d2, d3, d4] }
  | _ => none }
def fnExactTouchRow : OpenClaim := { program := "ytihajbjkjclmoaa", sum := "3af30bd5389ca0c0c24df51053b2e973aaf22112971a56f97be998c2821950eb", func := "loop.example/parquetry/laws.FnExactTouch", spec := "fnExactTouch", apart := false }
def FnExactTouchSaid : Prop := fnExactTouchRow.holds Try.pinned (OpenSpec.ofChange fnExactTouchSpec)

/-- ITS FALSE NEIGHBOUR: 'it returns false'. Refute it at one input. -/
def fnExactTouchWrong : ChangeSpec := { name := "fnExactTouch", fn := fun _ => fun
  | [d1, d2, d3, d4] => { results := [.lit (.bool false)], args := [d1, d2, d3, d4] }
  | _ => none }
def FnExactTouchWrongFalsely : Prop := fnExactTouchRow.holds Try.pinned (OpenSpec.ofChange fnExactTouchWrong)

/-- 'laws.FnTouchOut': WHATEVER THE INPUT: true; the input reads as it did. -/
def fnTouchOutSpec : ChangeSpec := { name := "fnTouchOut", fn := fun _ => fun
  | [d] => { results := [.lit (.bool true)], args := [d] }
  | _ => none }
def fnTouchOutRow : OpenClaim := { program := "ytihajbjkjclmoaa", sum := "3af30bd5389ca0c0c24df51053b2e973aaf22112971a56f97be998c2821950eb", func := "loop.example/parquetry/laws.FnTouchOut", spec := "fnTouchOut", apart := false }
def FnTouchOutSaid : Prop := fnTouchOutRow.holds Try.pinned (OpenSpec.ofChange fnTouchOutSpec)

/-- ITS FALSE NEIGHBOUR: 'it returns false'. Refute it at one input. -/
def fnTouchOutWrong : ChangeSpec := { name := "fnTouchOut", fn := fun _ => fun
  | [d] => { results := [.lit (.bool false)], args := [d] }
  | _ => none }
def FnTouchOutWrongFalsely : Prop := fnTouchOutRow.holds Try.pinned (OpenSpec.ofChange fnTouchOutWrong)

/-- 'laws.FnTouch': WHATEVER THE INPUT: true; the input reads as it did. -/
def fnTouchSpec : ChangeSpec := { name := "fnTouch", fn := fun _ => fun
  | [d] => { results := [.lit (.bool true)], args := [d] }
  | _ => none }
def fnTouchRow : OpenClaim := { program := "ytihajbjkjclmoaa", sum := "3af30bd5389ca0c0c24df51053b2e973aaf22112971a56f97be998c2821950eb", func := "loop.example/parquetry/laws.FnTouch", spec := "fnTouch", apart := false }
def FnTouchSaid : Prop := fnTouchRow.holds Try.pinned (OpenSpec.ofChange fnTouchSpec)

/-- ITS FALSE NEIGHBOUR: 'it returns false'. Refute it at one input. -/
def fnTouchWrong : ChangeSpec := { name := "fnTouch", fn := fun _ => fun
  | [d] => { results := [.lit (.bool false)], args := [d] }
  | _ => none }
def FnTouchWrongFalsely : Prop := fnTouchRow.holds Try.pinned (OpenSpec.ofChange fnTouchWrong)

/-- 'laws.FnTouchPoint': WHATEVER THE INPUT: true; the input reads as it did. -/
def fnTouchPointSpec : ChangeSpec := { name := "fnTouchPoint", fn := fun _ => fun
  | [d] => { results := [.lit (.bool true)], args := [d] }
  | _ => none }
def fnTouchPointRow : OpenClaim := { program := "ytihajbjkjclmoaa", sum := "3af30bd5389ca0c0c24df51053b2e973aaf22112971a56f97be998c2821950eb", func := "loop.example/parquetry/laws.FnTouchPoint", spec := "fnTouchPoint", apart := false }
def FnTouchPointSaid : Prop := fnTouchPointRow.holds Try.pinned (OpenSpec.ofChange fnTouchPointSpec)

/-- ITS FALSE NEIGHBOUR: 'it returns false'. Refute it at one input. -/
def fnTouchPointWrong : ChangeSpec := { name := "fnTouchPoint", fn := fun _ => fun
  | [d] => { results := [.lit (.bool false)], args := [d] }
  | _ => none }
def FnTouchPointWrongFalsely : Prop := fnTouchPointRow.holds Try.pinned (OpenSpec.ofChange fnTouchPointWrong)

/- THE SECOND FORM. 'bulk': how many values and letters a reading holds, each counted each time it is reached (what is shared counts as often as it is met; a slice's spare places count too). A statement '..UptoSaid' is the law's where the arguments, and the package variables that the reading takes, are together of bulk at most 1048576: NARROWER than '..Said'. Prove '..Said' where nothing that the law and all that it calls make is longer than what came in: it says more and counts as full. Else prove '..UptoSaid'. A law counts once. -/
mutual
def uptoBulk {H : Type} : DataW H → Nat
  | .lit (.string bytes) => bytes.length + 1
  | .lit _ => 1
  | .nil => 1
  | .ptr d => uptoBulk d + 1
  | .slice elems spare => uptoBulkAll elems + uptoBulkAll spare + 1
  | .agg parts => uptoBulkAll parts + 1
  | .iface _ d => uptoBulk d + 1
  | .map entries => uptoBulkEntries entries + 1
  | .held _ => 1
def uptoBulkAll {H : Type} : List (DataW H) → Nat
  | [] => 0
  | d :: r => uptoBulk d + uptoBulkAll r
def uptoBulkEntries {H : Type} : List (Lit × DataW H) → Nat
  | [] => 0
  | x :: r => uptoBulkEntry x + uptoBulkEntries r
def uptoBulkEntry {H : Type} : Lit × DataW H → Nat
  | (.string bytes, d) => bytes.length + uptoBulk d + 1
  | (_, d) => uptoBulk d + 1
 end
def uptoSmall : (H : Type) → List (DataW H) → Bool := fun _ ds => decide (uptoBulkAll ds ≤ 1048576)
def OpenSpec.upto (s : _root_.Go.ChangeSpec) : _root_.Go.OpenSpec := { _root_.Go.OpenSpec.ofChange s with cond := some uptoSmall }

/-- 'laws.FnBoxBoth', WHERE WHAT IT READS IS OF BULK AT MOST 1048576: true; the input reads as it did. -/
def fnBoxBothUptoRow : OpenClaim := { program := "ytihajbjkjclmoaa", sum := "3af30bd5389ca0c0c24df51053b2e973aaf22112971a56f97be998c2821950eb", func := "loop.example/parquetry/laws.FnBoxBoth", spec := "fnBoxBoth", apart := false, narrowed := true }
def FnBoxBothUptoSaid : Prop := fnBoxBothUptoRow.holds Try.pinned (OpenSpec.upto fnBoxBothSpec)

/-- 'laws.FnExactBodyPush', WHERE WHAT IT READS IS OF BULK AT MOST 1048576: true; the input reads as it did. -/
def fnExactBodyPushUptoRow : OpenClaim := { program := "ytihajbjkjclmoaa", sum := "3af30bd5389ca0c0c24df51053b2e973aaf22112971a56f97be998c2821950eb", func := "loop.example/parquetry/laws.FnExactBodyPush", spec := "fnExactBodyPush", apart := false, narrowed := true }
def FnExactBodyPushUptoSaid : Prop := fnExactBodyPushUptoRow.holds Try.pinned (OpenSpec.upto fnExactBodyPushSpec)

/-- 'laws.FnExactBodyMove', WHERE WHAT IT READS IS OF BULK AT MOST 1048576: true; the input reads as it did. -/
def fnExactBodyMoveUptoRow : OpenClaim := { program := "ytihajbjkjclmoaa", sum := "3af30bd5389ca0c0c24df51053b2e973aaf22112971a56f97be998c2821950eb", func := "loop.example/parquetry/laws.FnExactBodyMove", spec := "fnExactBodyMove", apart := false, narrowed := true }
def FnExactBodyMoveUptoSaid : Prop := fnExactBodyMoveUptoRow.holds Try.pinned (OpenSpec.upto fnExactBodyMoveSpec)

/-- 'laws.FnBodyPush', WHERE WHAT IT READS IS OF BULK AT MOST 1048576: true; the input reads as it did. -/
def fnBodyPushUptoRow : OpenClaim := { program := "ytihajbjkjclmoaa", sum := "3af30bd5389ca0c0c24df51053b2e973aaf22112971a56f97be998c2821950eb", func := "loop.example/parquetry/laws.FnBodyPush", spec := "fnBodyPush", apart := false, narrowed := true }
def FnBodyPushUptoSaid : Prop := fnBodyPushUptoRow.holds Try.pinned (OpenSpec.upto fnBodyPushSpec)

/-- 'laws.FnBodyMove', WHERE WHAT IT READS IS OF BULK AT MOST 1048576: true; the input reads as it did. -/
def fnBodyMoveUptoRow : OpenClaim := { program := "ytihajbjkjclmoaa", sum := "3af30bd5389ca0c0c24df51053b2e973aaf22112971a56f97be998c2821950eb", func := "loop.example/parquetry/laws.FnBodyMove", spec := "fnBodyMove", apart := false, narrowed := true }
def FnBodyMoveUptoSaid : Prop := fnBodyMoveUptoRow.holds Try.pinned (OpenSpec.upto fnBodyMoveSpec)

/-- 'laws.FnExactTouch', WHERE WHAT IT READS IS OF BULK AT MOST 1048576: true; the input reads as it did. -/
def fnExactTouchUptoRow : OpenClaim := { program := "ytihajbjkjclmoaa", sum := "3af30bd5389ca0c0c24df51053b2e973aaf22112971a56f97be998c2821950eb", func := "loop.example/parquetry/laws.FnExactTouch", spec := "fnExactTouch", apart := false, narrowed := true }
def FnExactTouchUptoSaid : Prop := fnExactTouchUptoRow.holds Try.pinned (OpenSpec.upto fnExactTouchSpec)

/-- 'laws.FnTouchOut', WHERE WHAT IT READS IS OF BULK AT MOST 1048576: true; the input reads as it did. -/
def fnTouchOutUptoRow : OpenClaim := { program := "ytihajbjkjclmoaa", sum := "3af30bd5389ca0c0c24df51053b2e973aaf22112971a56f97be998c2821950eb", func := "loop.example/parquetry/laws.FnTouchOut", spec := "fnTouchOut", apart := false, narrowed := true }
def FnTouchOutUptoSaid : Prop := fnTouchOutUptoRow.holds Try.pinned (OpenSpec.upto fnTouchOutSpec)

/-- 'laws.FnTouch', WHERE WHAT IT READS IS OF BULK AT MOST 1048576: true; the input reads as it did. -/
def fnTouchUptoRow : OpenClaim := { program := "ytihajbjkjclmoaa", sum := "3af30bd5389ca0c0c24df51053b2e973aaf22112971a56f97be998c2821950eb", func := "loop.example/parquetry/laws.FnTouch", spec := "fnTouch", apart := false, narrowed := true }
def FnTouchUptoSaid : Prop := fnTouchUptoRow.holds Try.pinned (OpenSpec.upto fnTouchSpec)

/-- 'laws.FnTouchPoint', WHERE WHAT IT READS IS OF BULK AT MOST 1048576: true; the input reads as it did. -/
def fnTouchPointUptoRow : OpenClaim := { program := "ytihajbjkjclmoaa", sum := "3af30bd5389ca0c0c24df51053b2e973aaf22112971a56f97be998c2821950eb", func := "loop.example/parquetry/laws.FnTouchPoint", spec := "fnTouchPoint", apart := false, narrowed := true }
def FnTouchPointUptoSaid : Prop := fnTouchPointUptoRow.holds Try.pinned (OpenSpec.upto fnTouchPointSpec)

end Rows
end Go.Proofs.Ytihajbjkjclmoaa
