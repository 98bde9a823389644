/-
  No cell of these rows narrows 'for every input' (looked for: loops, veiled, ifaces, maps, wideKeys, modest, calm, conditions, laid).
  DERIVED. THE GIVEN ROWS OF THIS SEAT. 12 by the template 'for every input the law returns true; each argument reads behind the call as it read before'; 0 by the template 'total and deterministic' (their statements: YtgclkbklhopaaaaTotals.lean).
  GIVEN WITH THE SEED: the statements are not yours to turn. If you find one false, say at which input.
  Laid BY PROGRAM, IN A SANDBOX (cutbox-rows.mjs): the forced cells as the released guide's own fill.sh prints them over the translation 65409933efec8e24… (all of the seat's roots in one cut). By AI agents, Wed Nov 11 2026. No macro, syntax, notation, axiom, sorry.
-/
import Derived.Test.YtgclkbklhopaaaaChecked
import GoSem.Claim
import GoSem.ClaimJoined
import GoSem.ClaimMapViews
import Derived.JoinedTies
import Derived.KernelRfl
namespace Go.Proofs.Ytgclkbklhopaaaa
/- THE CELL 'sum', in the pinned program and in every row, IS THE sha256 OF THE DUMP (.gsa) THAT YtgclkbklhopaaaaProg.lean LOADS. Nothing in Lean hashes anything: it is a label: what it is worth is what the hold of that sum in a sandbox is worth. -/
noncomputable def Try.pinned : Pinned := { name := "ytgclkbklhopaaaa", sum := "65409933efec8e2480012fe3d0f891062e019fd3a8240297effb25b12a627de5", checked := Try.checked }
namespace Rows
def none {H : Type} : Left H := { results := [], args := [] }

/-- 'laws.FnBoxBoth': WHATEVER THE INPUT: true; the input reads as it did. -/
def fnBoxBothSpec : ChangeSpec := { name := "fnBoxBoth", fn := fun _ => fun
  | [d] => { results := [.lit (.bool true)], args := [d] }
  | _ => none }
def fnBoxBothRow : OpenClaim := { program := "ytgclkbklhopaaaa", sum := "65409933efec8e2480012fe3d0f891062e019fd3a8240297effb25b12a627de5", func := "loop.example/parquetry/laws.FnBoxBoth", spec := "fnBoxBoth", apart := false }
def FnBoxBothSaid : Prop := fnBoxBothRow.holds Try.pinned (OpenSpec.ofChange fnBoxBothSpec)

/-- ITS FALSE NEIGHBOUR: 'it returns false'. Refute it at one input. -/
def fnBoxBothWrong : ChangeSpec := { name := "fnBoxBoth", fn := fun _ => fun
  | [d] => { results := [.lit (.bool false)], args := [d] }
  | _ => none }
def FnBoxBothWrongFalsely : Prop := fnBoxBothRow.holds Try.pinned (OpenSpec.ofChange fnBoxBothWrong)

/-- 'laws.FnExactBodySpeed': WHATEVER THE INPUT: true; the input reads as it did. -/
def fnExactBodySpeedSpec : ChangeSpec := { name := "fnExactBodySpeed", fn := fun _ => fun
  | [d] => { results := [.lit (.bool true)], args := [d] }
  | _ => none }
def fnExactBodySpeedRow : OpenClaim := { program := "ytgclkbklhopaaaa", sum := "65409933efec8e2480012fe3d0f891062e019fd3a8240297effb25b12a627de5", func := "loop.example/parquetry/laws.FnExactBodySpeed", spec := "fnExactBodySpeed", apart := false }
def FnExactBodySpeedSaid : Prop := fnExactBodySpeedRow.holds Try.pinned (OpenSpec.ofChange fnExactBodySpeedSpec)

/-- ITS FALSE NEIGHBOUR: 'it returns false'. Refute it at one input. -/
def fnExactBodySpeedWrong : ChangeSpec := { name := "fnExactBodySpeed", fn := fun _ => fun
  | [d] => { results := [.lit (.bool false)], args := [d] }
  | _ => none }
def FnExactBodySpeedWrongFalsely : Prop := fnExactBodySpeedRow.holds Try.pinned (OpenSpec.ofChange fnExactBodySpeedWrong)

/-- 'laws.FnBoxNear': WHATEVER THE INPUT: true; the input reads as it did. -/
def fnBoxNearSpec : ChangeSpec := { name := "fnBoxNear", fn := fun _ => fun
  | [d] => { results := [.lit (.bool true)], args := [d] }
  | _ => none }
def fnBoxNearRow : OpenClaim := { program := "ytgclkbklhopaaaa", sum := "65409933efec8e2480012fe3d0f891062e019fd3a8240297effb25b12a627de5", func := "loop.example/parquetry/laws.FnBoxNear", spec := "fnBoxNear", apart := false }
def FnBoxNearSaid : Prop := fnBoxNearRow.holds Try.pinned (OpenSpec.ofChange fnBoxNearSpec)

/-- ITS FALSE NEIGHBOUR: 'it returns false'. Refute it at one input. -/
def fnBoxNearWrong : ChangeSpec := { name := "fnBoxNear", fn := fun _ => fun
  | [d] => { results := [.lit (.bool false)], args := [d] }
  | _ => none }
def FnBoxNearWrongFalsely : Prop := fnBoxNearRow.holds Try.pinned (OpenSpec.ofChange fnBoxNearWrong)

/-- 'laws.FnVecUnit': WHATEVER THE INPUT: true; the input reads as it did. -/
def fnVecUnitSpec : ChangeSpec := { name := "fnVecUnit", fn := fun _ => fun
  | [d] => { results := [.lit (.bool true)], args := [d] }
  | _ => none }
def fnVecUnitRow : OpenClaim := { program := "ytgclkbklhopaaaa", sum := "65409933efec8e2480012fe3d0f891062e019fd3a8240297effb25b12a627de5", func := "loop.example/parquetry/laws.FnVecUnit", spec := "fnVecUnit", apart := false }
def FnVecUnitSaid : Prop := fnVecUnitRow.holds Try.pinned (OpenSpec.ofChange fnVecUnitSpec)

/-- ITS FALSE NEIGHBOUR: 'it returns false'. Refute it at one input. -/
def fnVecUnitWrong : ChangeSpec := { name := "fnVecUnit", fn := fun _ => fun
  | [d] => { results := [.lit (.bool false)], args := [d] }
  | _ => none }
def FnVecUnitWrongFalsely : Prop := fnVecUnitRow.holds Try.pinned (OpenSpec.ofChange fnVecUnitWrong)

/-- 'laws.FnShapeBounds': WHATEVER THE INPUT: true; the input reads as it did. -/
def fnShapeBoundsSpec : ChangeSpec := { name := "fnShapeBounds", fn := fun _ => fun
  | [d] => { results := [.lit (.bool true)], args := [d] }
  | _ => none }
def fnShapeBoundsRow : OpenClaim := { program := "ytgclkbklhopaaaa", sum := "65409933efec8e2480012fe3d0f891062e019fd3a8240297effb25b12a627de5", func := "loop.example/parquetry/laws.FnShapeBounds", spec := "fnShapeBounds", apart := false }
def FnShapeBoundsSaid : Prop := fnShapeBoundsRow.holds Try.pinned (OpenSpec.ofChange fnShapeBoundsSpec)

/-- ITS FALSE NEIGHBOUR: 'it returns false'. Refute it at one input. -/
def fnShapeBoundsWrong : ChangeSpec := { name := "fnShapeBounds", fn := fun _ => fun
  | [d] => { results := [.lit (.bool false)], args := [d] }
  | _ => none }
def FnShapeBoundsWrongFalsely : Prop := fnShapeBoundsRow.holds Try.pinned (OpenSpec.ofChange fnShapeBoundsWrong)

/-- 'laws.FnShapeHas': WHATEVER THE INPUT: true; the input reads as it did. -/
def fnShapeHasSpec : ChangeSpec := { name := "fnShapeHas", fn := fun _ => fun
  | [d] => { results := [.lit (.bool true)], args := [d] }
  | _ => none }
def fnShapeHasRow : OpenClaim := { program := "ytgclkbklhopaaaa", sum := "65409933efec8e2480012fe3d0f891062e019fd3a8240297effb25b12a627de5", func := "loop.example/parquetry/laws.FnShapeHas", spec := "fnShapeHas", apart := false }
def FnShapeHasSaid : Prop := fnShapeHasRow.holds Try.pinned (OpenSpec.ofChange fnShapeHasSpec)

/-- ITS FALSE NEIGHBOUR: 'it returns false'. Refute it at one input. -/
def fnShapeHasWrong : ChangeSpec := { name := "fnShapeHas", fn := fun _ => fun
  | [d] => { results := [.lit (.bool false)], args := [d] }
  | _ => none }
def FnShapeHasWrongFalsely : Prop := fnShapeHasRow.holds Try.pinned (OpenSpec.ofChange fnShapeHasWrong)

/-- 'laws.FnExactBodiesOk': WHATEVER THE INPUT: true; the input reads as it did. -/
def fnExactBodiesOkSpec : ChangeSpec := { name := "fnExactBodiesOk", fn := fun _ => fun
  | [d] => { results := [.lit (.bool true)], args := [d] }
  | _ => none }
def fnExactBodiesOkRow : OpenClaim := { program := "ytgclkbklhopaaaa", sum := "65409933efec8e2480012fe3d0f891062e019fd3a8240297effb25b12a627de5", func := "loop.example/parquetry/laws.FnExactBodiesOk", spec := "fnExactBodiesOk", apart := false }
def FnExactBodiesOkSaid : Prop := fnExactBodiesOkRow.holds Try.pinned (OpenSpec.ofChange fnExactBodiesOkSpec)

/-- ITS FALSE NEIGHBOUR: 'it returns false'. Refute it at one input. -/
def fnExactBodiesOkWrong : ChangeSpec := { name := "fnExactBodiesOk", fn := fun _ => fun
  | [d] => { results := [.lit (.bool false)], args := [d] }
  | _ => none }
def FnExactBodiesOkWrongFalsely : Prop := fnExactBodiesOkRow.holds Try.pinned (OpenSpec.ofChange fnExactBodiesOkWrong)

/-- 'laws.FnExactBodyPush': WHATEVER THE INPUT: true; the input reads as it did. -/
def fnExactBodyPushSpec : ChangeSpec := { name := "fnExactBodyPush", fn := fun _ => fun
  | [d1, d2] => { results := [.lit (.bool true)], args := [d1, d2] }
  | _ => none }
def fnExactBodyPushRow : OpenClaim := { program := "ytgclkbklhopaaaa", sum := "65409933efec8e2480012fe3d0f891062e019fd3a8240297effb25b12a627de5", func := "loop.example/parquetry/laws.FnExactBodyPush", spec := "fnExactBodyPush", apart := false }
def FnExactBodyPushSaid : Prop := fnExactBodyPushRow.holds Try.pinned (OpenSpec.ofChange fnExactBodyPushSpec)

/-- ITS FALSE NEIGHBOUR: 'it returns false'. Refute it at one input. -/
def fnExactBodyPushWrong : ChangeSpec := { name := "fnExactBodyPush", fn := fun _ => fun
  | [d1, d2] => { results := [.lit (.bool false)], args := [d1, d2] }
  | _ => none }
def FnExactBodyPushWrongFalsely : Prop := fnExactBodyPushRow.holds Try.pinned (OpenSpec.ofChange fnExactBodyPushWrong)

/-- 'laws.FnBodySpeed': WHATEVER THE INPUT: true; the input reads as it did. -/
def fnBodySpeedSpec : ChangeSpec := { name := "fnBodySpeed", fn := fun _ => fun
  | [d] => { results := [.lit (.bool true)], args := [d] }
  | _ => none }
def fnBodySpeedRow : OpenClaim := { program := "ytgclkbklhopaaaa", sum := "65409933efec8e2480012fe3d0f891062e019fd3a8240297effb25b12a627de5", func := "loop.example/parquetry/laws.FnBodySpeed", spec := "fnBodySpeed", apart := false }
def FnBodySpeedSaid : Prop := fnBodySpeedRow.holds Try.pinned (OpenSpec.ofChange fnBodySpeedSpec)

/-- ITS FALSE NEIGHBOUR: 'it returns false'. Refute it at one input. -/
def fnBodySpeedWrong : ChangeSpec := { name := "fnBodySpeed", fn := fun _ => fun
  | [d] => { results := [.lit (.bool false)], args := [d] }
  | _ => none }
def FnBodySpeedWrongFalsely : Prop := fnBodySpeedRow.holds Try.pinned (OpenSpec.ofChange fnBodySpeedWrong)

/-- 'laws.FnExactDrives': WHATEVER THE INPUT: true; the input reads as it did. -/
def fnExactDrivesSpec : ChangeSpec := { name := "fnExactDrives", fn := fun _ => fun
  | [d] => { results := [.lit (.bool true)], args := [d] }
  | _ => none }
def fnExactDrivesRow : OpenClaim := { program := "ytgclkbklhopaaaa", sum := "65409933efec8e2480012fe3d0f891062e019fd3a8240297effb25b12a627de5", func := "loop.example/parquetry/laws.FnExactDrives", spec := "fnExactDrives", apart := false }
def FnExactDrivesSaid : Prop := fnExactDrivesRow.holds Try.pinned (OpenSpec.ofChange fnExactDrivesSpec)

/-- ITS FALSE NEIGHBOUR: 'it returns false'. Refute it at one input. -/
def fnExactDrivesWrong : ChangeSpec := { name := "fnExactDrives", fn := fun _ => fun
  | [d] => { results := [.lit (.bool false)], args := [d] }
  | _ => none }
def FnExactDrivesWrongFalsely : Prop := fnExactDrivesRow.holds Try.pinned (OpenSpec.ofChange fnExactDrivesWrong)

/-- 'laws.FnExactBodyMove': WHATEVER THE INPUT: true; the input reads as it did. -/
def fnExactBodyMoveSpec : ChangeSpec := { name := "fnExactBodyMove", fn := fun _ => fun
  | [d] => { results := [.lit (.bool true)], args := [d] }
  | _ => none }
def fnExactBodyMoveRow : OpenClaim := { program := "ytgclkbklhopaaaa", sum := "65409933efec8e2480012fe3d0f891062e019fd3a8240297effb25b12a627de5", func := "loop.example/parquetry/laws.FnExactBodyMove", spec := "fnExactBodyMove", apart := false }
def FnExactBodyMoveSaid : Prop := fnExactBodyMoveRow.holds Try.pinned (OpenSpec.ofChange fnExactBodyMoveSpec)

/-- ITS FALSE NEIGHBOUR: 'it returns false'. Refute it at one input. -/
def fnExactBodyMoveWrong : ChangeSpec := { name := "fnExactBodyMove", fn := fun _ => fun
  | [d] => { results := [.lit (.bool false)], args := [d] }
  | _ => none }
def FnExactBodyMoveWrongFalsely : Prop := fnExactBodyMoveRow.holds Try.pinned (OpenSpec.ofChange fnExactBodyMoveWrong)

/-- 'laws.FnBodyPush': WHATEVER THE INPUT: true; the input reads as it did. -/
def fnBodyPushSpec : ChangeSpec := { name := "fnBodyPush", fn := fun _ => fun
  | [d] => { results := [.lit (.bool true)], args := [d] }
  | _ => none }
def fnBodyPushRow : OpenClaim := { program := "ytgclkbklhopaaaa", sum := "65409933efec8e2480012fe3d0f891062e019fd3a8240297effb25b12a627de5", func := "loop.example/parquetry/laws.FnBodyPush", spec := "fnBodyPush", apart := false }
def FnBodyPushSaid : Prop := fnBodyPushRow.holds Try.pinned (OpenSpec.ofChange fnBodyPushSpec)

/-- ITS FALSE NEIGHBOUR: 'it returns false'. Refute it at one input. -/
def fnBodyPushWrong : ChangeSpec := { name := "fnBodyPush", fn := fun _ => fun
  | [d] => { results := [.lit (.bool false)], args := [d] }
  | _ => none }
def FnBodyPushWrongFalsely : Prop := fnBodyPushRow.holds Try.pinned (OpenSpec.ofChange fnBodyPushWrong)

/- THE SECOND FORM. 'bulk': how many values and letters a reading holds, each counted each time it is reached (what is shared counts as often as it is met; a slice's spare places count too). A statement '..UptoSaid' is the law's where the arguments, and the package variables that the reading takes, are together of bulk at most 1048576: NARROWER than '..Said'. Prove '..Said' where nothing that the law and all that it calls make is longer than what came in: it says more and counts as full. Else prove '..UptoSaid'. A law counts once. -/
mutual
def uptoBulk {H : Type} : DataW H → Nat
  | .lit (.string bytes) => bytes.length + 1
  | .lit _ => 1
  | .nil => 1
  | .ptr d => uptoBulk d + 1
  | .slice elems spare => uptoBulkAll elems + uptoBulkAll spare + 1
  | .agg parts => uptoBulkAll parts + 1
  | .iface _ d => uptoBulk d + 1
  | .map entries => uptoBulkEntries entries + 1
  | .held _ => 1
def uptoBulkAll {H : Type} : List (DataW H) → Nat
  | [] => 0
  | d :: r => uptoBulk d + uptoBulkAll r
def uptoBulkEntries {H : Type} : List (Lit × DataW H) → Nat
  | [] => 0
  | x :: r => uptoBulkEntry x + uptoBulkEntries r
def uptoBulkEntry {H : Type} : Lit × DataW H → Nat
  | (.string bytes, d) => bytes.length + uptoBulk d + 1
  | (_, d) => uptoBulk d + 1
 end
def uptoSmall : (H : Type) → List (DataW H) → Bool := fun _ ds => decide (uptoBulkAll ds ≤ 1048576)
def OpenSpec.upto (s : _root_.Go.ChangeSpec) : _root_.Go.OpenSpec := { _root_.Go.OpenSpec.ofChange s with cond := some uptoSmall }

/-- 'laws.FnBoxBoth', WHERE WHAT IT READS IS OF BULK AT MOST 1048576: true; the input reads as it did. -/
def fnBoxBothUptoRow : OpenClaim := { program := "ytgclkbklhopaaaa", sum := "65409933efec8e2480012fe3d0f891062e019fd3a8240297effb25b12a627de5", func := "loop.example/parquetry/laws.FnBoxBoth", spec := "fnBoxBoth", apart := false, narrowed := true }
def FnBoxBothUptoSaid : Prop := fnBoxBothUptoRow.holds Try.pinned (OpenSpec.upto fnBoxBothSpec)

/-- 'laws.FnExactBodySpeed', WHERE WHAT IT READS IS OF BULK AT MOST 1048576: true; the input reads as it did. -/
def fnExactBodySpeedUptoRow : OpenClaim := { program := "ytgclkbklhopaaaa", sum := "65409933efec8e2480012fe3d0f891062e019fd3a8240297effb25b12a627de5", func := "loop.example/parquetry/laws.FnExactBodySpeed", spec := "fnExactBodySpeed", apart := false, narrowed := true }
def FnExactBodySpeedUptoSaid : Prop := fnExactBodySpeedUptoRow.holds Try.pinned (OpenSpec.upto fnExactBodySpeedSpec)

/-- 'laws.FnBoxNear', WHERE WHAT IT READS IS OF BULK AT MOST 1048576: true; the input reads as it did. -/
def fnBoxNearUptoRow : OpenClaim := { program := "ytgclkbklhopaaaa", sum := "65409933efec8e2480012fe3d0f891062e019fd3a8240297effb25b12a627de5", func := "loop.example/parquetry/laws.FnBoxNear", spec := "fnBoxNear", apart := false, narrowed := true }
def FnBoxNearUptoSaid : Prop := fnBoxNearUptoRow.holds Try.pinned (OpenSpec.upto fnBoxNearSpec)

/-- 'laws.FnVecUnit', WHERE WHAT IT READS IS OF BULK AT MOST 1048576: true; the input reads as it did. -/
def fnVecUnitUptoRow : OpenClaim := { program := "ytgclkbklhopaaaa", sum := "65409933efec8e2480012fe3d0f891062e019fd3a8240297effb25b12a627de5", func := "loop.example/parquetry/laws.FnVecUnit", spec := "fnVecUnit", apart := false, narrowed := true }
def FnVecUnitUptoSaid : Prop := fnVecUnitUptoRow.holds Try.pinned (OpenSpec.upto fnVecUnitSpec)

/-- 'laws.FnShapeBounds', WHERE WHAT IT READS IS OF BULK AT MOST 1048576: true; the input reads as it did. -/
def fnShapeBoundsUptoRow : OpenClaim := { program := "ytgclkbklhopaaaa", sum := "65409933efec8e2480012fe3d0f891062e019fd3a8240297effb25b12a627de5", func := "loop.example/parquetry/laws.FnShapeBounds", spec := "fnShapeBounds", apart := false, narrowed := true }
def FnShapeBoundsUptoSaid : Prop := fnShapeBoundsUptoRow.holds Try.pinned (OpenSpec.upto fnShapeBoundsSpec)

/-- 'laws.FnShapeHas', WHERE WHAT IT READS IS OF BULK AT MOST 1048576: true; the input reads as it did. -/
def fnShapeHasUptoRow : OpenClaim := { program := "ytgclkbklhopaaaa", sum := "65409933efec8e2480012fe3d0f891062e019fd3a8240297effb25b12a627de5", func := "loop.example/parquetry/laws.FnShapeHas", spec := "fnShapeHas", apart := false, narrowed := true }
def FnShapeHasUptoSaid : Prop := fnShapeHasUptoRow.holds Try.pinned (OpenSpec.upto fnShapeHasSpec)

/-- 'laws.FnExactBodiesOk', WHERE WHAT IT READS IS OF BULK AT MOST 1048576: true; the input reads as it did. -/
def fnExactBodiesOkUptoRow : OpenClaim := { program := "ytgclkbklhopaaaa", sum := "65409933efec8e2480012fe3d0f891062e019fd3a8240297effb25b12a627de5", func := "loop.example/parquetry/laws.FnExactBodiesOk", spec := "fnExactBodiesOk", apart := false, narrowed := true }
def FnExactBodiesOkUptoSaid : Prop := fnExactBodiesOkUptoRow.holds Try.pinned (OpenSpec.upto fnExactBodiesOkSpec)

/-- 'laws.FnExactBodyPush', WHERE WHAT IT READS IS OF BULK AT MOST 1048576: true; the input reads as it did. -/
def fnExactBodyPushUptoRow : OpenClaim := { program := "ytgclkbklhopaaaa", sum := "65409933efec8e2480012fe3d0f891062e019fd3a8240297effb25b12a627de5", func := "loop.example/parquetry/laws.FnExactBodyPush", spec := "fnExactBodyPush", apart := false, narrowed := true }
def FnExactBodyPushUptoSaid : Prop := fnExactBodyPushUptoRow.holds Try.pinned (OpenSpec.upto fnExactBodyPushSpec)

/-- 'laws.FnBodySpeed', WHERE WHAT IT READS IS OF BULK AT MOST 1048576: true; the input reads as it did. -/
def fnBodySpeedUptoRow : OpenClaim := { program := "ytgclkbklhopaaaa", sum := "65409933efec8e2480012fe3d0f891062e019fd3a8240297effb25b12a627de5", func := "loop.example/parquetry/laws.FnBodySpeed", spec := "fnBodySpeed", apart := false, narrowed := true }
def FnBodySpeedUptoSaid : Prop := fnBodySpeedUptoRow.holds Try.pinned (OpenSpec.upto fnBodySpeedSpec)

/-- 'laws.FnExactDrives', WHERE WHAT IT READS IS OF BULK AT MOST 1048576: true; the input reads as it did. -/
def fnExactDrivesUptoRow : OpenClaim := { program := "ytgclkbklhopaaaa", sum := "65409933efec8e2480012fe3d0f891062e019fd3a8240297effb25b12a627de5", func := "loop.example/parquetry/laws.FnExactDrives", spec := "fnExactDrives", apart := false, narrowed := true }
def FnExactDrivesUptoSaid : Prop := fnExactDrivesUptoRow.holds Try.pinned (OpenSpec.upto fnExactDrivesSpec)

/-- 'laws.FnExactBodyMove', WHERE WHAT IT READS IS OF BULK AT MOST 1048576: true; the input reads as it did. -/
def fnExactBodyMoveUptoRow : OpenClaim := { program := "ytgclkbklhopaaaa", sum := "65409933efec8e2480012fe3d0f891062e019fd3a8240297effb25b12a627de5", func := "loop.example/parquetry/laws.FnExactBodyMove", spec := "fnExactBodyMove", apart := false, narrowed := true }
def FnExactBodyMoveUptoSaid : Prop := fnExactBodyMoveUptoRow.holds Try.pinned (OpenSpec.upto fnExactBodyMoveSpec)

/-- 'laws.FnBodyPush', WHERE WHAT IT READS IS OF BULK AT MOST 1048576: true; the input reads as it did. -/
def fnBodyPushUptoRow : OpenClaim := { program := "ytgclkbklhopaaaa", sum := "65409933efec8e2480012fe3d0f891062e019fd3a8240297effb25b12a627de5", func := "loop.example/parquetry/laws.FnBodyPush", spec := "fnBodyPush", apart := false, narrowed := true }
def FnBodyPushUptoSaid : Prop := fnBodyPushUptoRow.holds Try.pinned (OpenSpec.upto fnBodyPushSpec)

end Rows
end Go.Proofs.Ytgclkbklhopaaaa
