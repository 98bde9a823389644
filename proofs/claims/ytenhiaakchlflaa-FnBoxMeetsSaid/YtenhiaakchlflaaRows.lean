/-
  No cell of these rows narrows 'for every input' (looked for: loops, veiled, ifaces, maps, wideKeys, modest, calm, conditions, laid).
  DERIVED. THE GIVEN ROWS OF THIS SEAT. 12 by the template 'for every input the law returns true; each argument reads behind the call as it read before'; 0 by the template 'total and deterministic' (their statements: YtenhiaakchlflaaTotals.lean).
  GIVEN WITH THE SEED: the statements are not yours to turn. If you find one false, say at which input.
  Laid BY PROGRAM, IN A SANDBOX (cutbox-rows.mjs): the forced cells as the released guide's own fill.sh prints them over the translation f411208ee153066b… (all of the seat's roots in one cut). By AI agents, Wed Nov 11 2026. No macro, syntax, notation, axiom, sorry.
-/
import Derived.Test.YtenhiaakchlflaaChecked
import GoSem.Claim
import GoSem.ClaimJoined
import GoSem.ClaimMapViews
import Derived.JoinedTies
import Derived.KernelRfl
namespace Go.Proofs.Ytenhiaakchlflaa
/- THE CELL 'sum', in the pinned program and in every row, IS THE sha256 OF THE DUMP (.gsa) THAT YtenhiaakchlflaaProg.lean LOADS. Nothing in Lean hashes anything: it is a label: what it is worth is what the hold of that sum in a sandbox is worth. -/
noncomputable def Try.pinned : Pinned := { name := "ytenhiaakchlflaa", sum := "f411208ee153066b22dc9a8d22b85d05ccfac1550772e2b434f110a6afb8e630", checked := Try.checked }
namespace Rows
def none {H : Type} : Left H := { results := [], args := [] }

/-- 'laws.FnFixDiv': WHATEVER THE INPUT: true; the input reads as it did. -/
def fnFixDivSpec : ChangeSpec := { name := "fnFixDiv", fn := fun _ => fun
  | [d] => { results := [.lit (.bool true)], args := [d] }
  | _ => none }
def fnFixDivRow : OpenClaim := { program := "ytenhiaakchlflaa", sum := "f411208ee153066b22dc9a8d22b85d05ccfac1550772e2b434f110a6afb8e630", func := "loop.example/parquetry/laws.FnFixDiv", spec := "fnFixDiv", apart := false }
def FnFixDivSaid : Prop := fnFixDivRow.holds Try.pinned (OpenSpec.ofChange fnFixDivSpec)

/-- ITS FALSE NEIGHBOUR: 'it returns false'. Refute it at one input. -/
def fnFixDivWrong : ChangeSpec := { name := "fnFixDiv", fn := fun _ => fun
  | [d] => { results := [.lit (.bool false)], args := [d] }
  | _ => none }
def FnFixDivWrongFalsely : Prop := fnFixDivRow.holds Try.pinned (OpenSpec.ofChange fnFixDivWrong)

/-- 'laws.FnVecAdd': WHATEVER THE INPUT: true; the input reads as it did. -/
def fnVecAddSpec : ChangeSpec := { name := "fnVecAdd", fn := fun _ => fun
  | [d] => { results := [.lit (.bool true)], args := [d] }
  | _ => none }
def fnVecAddRow : OpenClaim := { program := "ytenhiaakchlflaa", sum := "f411208ee153066b22dc9a8d22b85d05ccfac1550772e2b434f110a6afb8e630", func := "loop.example/parquetry/laws.FnVecAdd", spec := "fnVecAdd", apart := false }
def FnVecAddSaid : Prop := fnVecAddRow.holds Try.pinned (OpenSpec.ofChange fnVecAddSpec)

/-- ITS FALSE NEIGHBOUR: 'it returns false'. Refute it at one input. -/
def fnVecAddWrong : ChangeSpec := { name := "fnVecAdd", fn := fun _ => fun
  | [d] => { results := [.lit (.bool false)], args := [d] }
  | _ => none }
def FnVecAddWrongFalsely : Prop := fnVecAddRow.holds Try.pinned (OpenSpec.ofChange fnVecAddWrong)

/-- 'laws.FnExactBodyOk': WHATEVER THE INPUT: true; the input reads as it did. -/
def fnExactBodyOkSpec : ChangeSpec := { name := "fnExactBodyOk", fn := fun _ => fun
  | [d] => { results := [.lit (.bool true)], args := [d] }
  | _ => none }
def fnExactBodyOkRow : OpenClaim := { program := "ytenhiaakchlflaa", sum := "f411208ee153066b22dc9a8d22b85d05ccfac1550772e2b434f110a6afb8e630", func := "loop.example/parquetry/laws.FnExactBodyOk", spec := "fnExactBodyOk", apart := false }
def FnExactBodyOkSaid : Prop := fnExactBodyOkRow.holds Try.pinned (OpenSpec.ofChange fnExactBodyOkSpec)

/-- ITS FALSE NEIGHBOUR: 'it returns false'. Refute it at one input. -/
def fnExactBodyOkWrong : ChangeSpec := { name := "fnExactBodyOk", fn := fun _ => fun
  | [d] => { results := [.lit (.bool false)], args := [d] }
  | _ => none }
def FnExactBodyOkWrongFalsely : Prop := fnExactBodyOkRow.holds Try.pinned (OpenSpec.ofChange fnExactBodyOkWrong)

/-- 'laws.FnExactShapeHas': WHATEVER THE INPUT: true; the input reads as it did. -/
def fnExactShapeHasSpec : ChangeSpec := { name := "fnExactShapeHas", fn := fun _ => fun
  | [d1, d2, d3] => { results := [.lit (.bool true)], args := [d1, d2, d3] }
  | _ => none }
def fnExactShapeHasRow : OpenClaim := { program := "ytenhiaakchlflaa", sum := "f411208ee153066b22dc9a8d22b85d05ccfac1550772e2b434f110a6afb8e630", func := "loop.example/parquetry/laws.FnExactShapeHas", spec := "fnExactShapeHas", apart := false }
def FnExactShapeHasSaid : Prop := fnExactShapeHasRow.holds Try.pinned (OpenSpec.ofChange fnExactShapeHasSpec)

/-- ITS FALSE NEIGHBOUR: 'it returns false'. Refute it at one input. -/
def fnExactShapeHasWrong : ChangeSpec := { name := "fnExactShapeHas", fn := fun _ => fun
  | [d1, d2, d3] => { results := [.lit (.bool false)], args := [d1, d2, d3] }
  | _ => none }
def FnExactShapeHasWrongFalsely : Prop := fnExactShapeHasRow.holds Try.pinned (OpenSpec.ofChange fnExactShapeHasWrong)

/-- 'laws.FnFixSqrt': WHATEVER THE INPUT: true; the input reads as it did. -/
def fnFixSqrtSpec : ChangeSpec := { name := "fnFixSqrt", fn := fun _ => fun
  | [d] => { results := [.lit (.bool true)], args := [d] }
  | _ => none }
def fnFixSqrtRow : OpenClaim := { program := "ytenhiaakchlflaa", sum := "f411208ee153066b22dc9a8d22b85d05ccfac1550772e2b434f110a6afb8e630", func := "loop.example/parquetry/laws.FnFixSqrt", spec := "fnFixSqrt", apart := false }
def FnFixSqrtSaid : Prop := fnFixSqrtRow.holds Try.pinned (OpenSpec.ofChange fnFixSqrtSpec)

/-- ITS FALSE NEIGHBOUR: 'it returns false'. Refute it at one input. -/
def fnFixSqrtWrong : ChangeSpec := { name := "fnFixSqrt", fn := fun _ => fun
  | [d] => { results := [.lit (.bool false)], args := [d] }
  | _ => none }
def FnFixSqrtWrongFalsely : Prop := fnFixSqrtRow.holds Try.pinned (OpenSpec.ofChange fnFixSqrtWrong)

/-- 'laws.FnExactVecUnit': WHATEVER THE INPUT: true; the input reads as it did. -/
def fnExactVecUnitSpec : ChangeSpec := { name := "fnExactVecUnit", fn := fun _ => fun
  | [d] => { results := [.lit (.bool true)], args := [d] }
  | _ => none }
def fnExactVecUnitRow : OpenClaim := { program := "ytenhiaakchlflaa", sum := "f411208ee153066b22dc9a8d22b85d05ccfac1550772e2b434f110a6afb8e630", func := "loop.example/parquetry/laws.FnExactVecUnit", spec := "fnExactVecUnit", apart := false }
def FnExactVecUnitSaid : Prop := fnExactVecUnitRow.holds Try.pinned (OpenSpec.ofChange fnExactVecUnitSpec)

/-- ITS FALSE NEIGHBOUR: 'it returns false'. Refute it at one input. -/
def fnExactVecUnitWrong : ChangeSpec := { name := "fnExactVecUnit", fn := fun _ => fun
  | [d] => { results := [.lit (.bool false)], args := [d] }
  | _ => none }
def FnExactVecUnitWrongFalsely : Prop := fnExactVecUnitRow.holds Try.pinned (OpenSpec.ofChange fnExactVecUnitWrong)

/-- 'laws.FnExactShapeBounds': WHATEVER THE INPUT: true; the input reads as it did. -/
def fnExactShapeBoundsSpec : ChangeSpec := { name := "fnExactShapeBounds", fn := fun _ => fun
  | [d1, d2] => { results := [.lit (.bool true)], args := [d1, d2] }
  | _ => none }
def fnExactShapeBoundsRow : OpenClaim := { program := "ytenhiaakchlflaa", sum := "f411208ee153066b22dc9a8d22b85d05ccfac1550772e2b434f110a6afb8e630", func := "loop.example/parquetry/laws.FnExactShapeBounds", spec := "fnExactShapeBounds", apart := false }
def FnExactShapeBoundsSaid : Prop := fnExactShapeBoundsRow.holds Try.pinned (OpenSpec.ofChange fnExactShapeBoundsSpec)

/-- ITS FALSE NEIGHBOUR: 'it returns false'. Refute it at one input. -/
def fnExactShapeBoundsWrong : ChangeSpec := { name := "fnExactShapeBounds", fn := fun _ => fun
  | [d1, d2] => { results := [.lit (.bool false)], args := [d1, d2] }
  | _ => none }
def FnExactShapeBoundsWrongFalsely : Prop := fnExactShapeBoundsRow.holds Try.pinned (OpenSpec.ofChange fnExactShapeBoundsWrong)

/-- 'laws.FnExactBodySleeps': WHATEVER THE INPUT: true; the input reads as it did. -/
def fnExactBodySleepsSpec : ChangeSpec := { name := "fnExactBodySleeps", fn := fun _ => fun
  | [d] => { results := [.lit (.bool true)], args := [d] }
  | _ => none }
def fnExactBodySleepsRow : OpenClaim := { program := "ytenhiaakchlflaa", sum := "f411208ee153066b22dc9a8d22b85d05ccfac1550772e2b434f110a6afb8e630", func := "loop.example/parquetry/laws.FnExactBodySleeps", spec := "fnExactBodySleeps", apart := false }
def FnExactBodySleepsSaid : Prop := fnExactBodySleepsRow.holds Try.pinned (OpenSpec.ofChange fnExactBodySleepsSpec)

/-- ITS FALSE NEIGHBOUR: 'it returns false'. Refute it at one input. -/
def fnExactBodySleepsWrong : ChangeSpec := { name := "fnExactBodySleeps", fn := fun _ => fun
  | [d] => { results := [.lit (.bool false)], args := [d] }
  | _ => none }
def FnExactBodySleepsWrongFalsely : Prop := fnExactBodySleepsRow.holds Try.pinned (OpenSpec.ofChange fnExactBodySleepsWrong)

/-- 'laws.FnVecDot': WHATEVER THE INPUT: true; the input reads as it did. -/
def fnVecDotSpec : ChangeSpec := { name := "fnVecDot", fn := fun _ => fun
  | [d] => { results := [.lit (.bool true)], args := [d] }
  | _ => none }
def fnVecDotRow : OpenClaim := { program := "ytenhiaakchlflaa", sum := "f411208ee153066b22dc9a8d22b85d05ccfac1550772e2b434f110a6afb8e630", func := "loop.example/parquetry/laws.FnVecDot", spec := "fnVecDot", apart := false }
def FnVecDotSaid : Prop := fnVecDotRow.holds Try.pinned (OpenSpec.ofChange fnVecDotSpec)

/-- ITS FALSE NEIGHBOUR: 'it returns false'. Refute it at one input. -/
def fnVecDotWrong : ChangeSpec := { name := "fnVecDot", fn := fun _ => fun
  | [d] => { results := [.lit (.bool false)], args := [d] }
  | _ => none }
def FnVecDotWrongFalsely : Prop := fnVecDotRow.holds Try.pinned (OpenSpec.ofChange fnVecDotWrong)

/-- 'laws.FnBoxHas': WHATEVER THE INPUT: true; the input reads as it did. -/
def fnBoxHasSpec : ChangeSpec := { name := "fnBoxHas", fn := fun _ => fun
  | [d1, d2] => { results := [.lit (.bool true)], args := [d1, d2] }
  | _ => none }
def fnBoxHasRow : OpenClaim := { program := "ytenhiaakchlflaa", sum := "f411208ee153066b22dc9a8d22b85d05ccfac1550772e2b434f110a6afb8e630", func := "loop.example/parquetry/laws.FnBoxHas", spec := "fnBoxHas", apart := false }
def FnBoxHasSaid : Prop := fnBoxHasRow.holds Try.pinned (OpenSpec.ofChange fnBoxHasSpec)

/-- ITS FALSE NEIGHBOUR: 'it returns false'. Refute it at one input. -/
def fnBoxHasWrong : ChangeSpec := { name := "fnBoxHas", fn := fun _ => fun
  | [d1, d2] => { results := [.lit (.bool false)], args := [d1, d2] }
  | _ => none }
def FnBoxHasWrongFalsely : Prop := fnBoxHasRow.holds Try.pinned (OpenSpec.ofChange fnBoxHasWrong)

/-- 'laws.FnVecLen': WHATEVER THE INPUT: true; the input reads as it did. -/
def fnVecLenSpec : ChangeSpec := { name := "fnVecLen", fn := fun _ => fun
  | [d1, d2] => { results := [.lit (.bool true)], args := [d1, d2] }
  | _ => none }
def fnVecLenRow : OpenClaim := { program := "ytenhiaakchlflaa", sum := "f411208ee153066b22dc9a8d22b85d05ccfac1550772e2b434f110a6afb8e630", func := "loop.example/parquetry/laws.FnVecLen", spec := "fnVecLen", apart := false }
def FnVecLenSaid : Prop := fnVecLenRow.holds Try.pinned (OpenSpec.ofChange fnVecLenSpec)

/-- ITS FALSE NEIGHBOUR: 'it returns false'. Refute it at one input. -/
def fnVecLenWrong : ChangeSpec := { name := "fnVecLen", fn := fun _ => fun
  | [d1, d2] => { results := [.lit (.bool false)], args := [d1, d2] }
  | _ => none }
def FnVecLenWrongFalsely : Prop := fnVecLenRow.holds Try.pinned (OpenSpec.ofChange fnVecLenWrong)

/-- 'laws.FnBoxMeets': WHATEVER THE INPUT: true; the input reads as it did. -/
def fnBoxMeetsSpec : ChangeSpec := { name := "fnBoxMeets", fn := fun _ => fun
  | [d] => { results := [.lit (.bool true)], args := [d] }
  | _ => none }
def fnBoxMeetsRow : OpenClaim := { program := "ytenhiaakchlflaa", sum := "f411208ee153066b22dc9a8d22b85d05ccfac1550772e2b434f110a6afb8e630", func := "loop.example/parquetry/laws.FnBoxMeets", spec := "fnBoxMeets", apart := false }
def FnBoxMeetsSaid : Prop := fnBoxMeetsRow.holds Try.pinned (OpenSpec.ofChange fnBoxMeetsSpec)

/-- ITS FALSE NEIGHBOUR: 'it returns false'. Refute it at one input. -/
def fnBoxMeetsWrong : ChangeSpec := { name := "fnBoxMeets", fn := fun _ => fun
  | [d] => { results := [.lit (.bool false)], args := [d] }
  | _ => none }
def FnBoxMeetsWrongFalsely : Prop := fnBoxMeetsRow.holds Try.pinned (OpenSpec.ofChange fnBoxMeetsWrong)

/- THE SECOND FORM. 'bulk': how many values and letters a reading holds, each counted each time it is reached (what is shared counts as often as it is met; a slice's spare places count too). A statement '..UptoSaid' is the law's where the arguments, and the package variables that the reading takes, are together of bulk at most 1048576: NARROWER than '..Said'. Prove '..Said' where nothing that the law and all that it calls make is longer than what came in: it says more and counts as full. Else prove '..UptoSaid'. A law counts once. -/
mutual
def uptoBulk {H : Type} : DataW H → Nat
  | .lit (.string bytes) => bytes.length + 1
  | .lit _ => 1
  | .nil => 1
  | .ptr d => uptoBulk d + 1
  | .slice elems spare => uptoBulkAll elems + uptoBulkAll spare + 1
  | .agg parts => uptoBulkAll parts + 1
  | .iface _ d => uptoBulk d + 1
  | .map entries => uptoBulkEntries entries + 1
  | .held _ => 1
def uptoBulkAll {H : Type} : List (DataW H) → Nat
  | [] => 0
  | d :: r => uptoBulk d + uptoBulkAll r
def uptoBulkEntries {H : Type} : List (Lit × DataW H) → Nat
  | [] => 0
  | x :: r => uptoBulkEntry x + uptoBulkEntries r
def uptoBulkEntry {H : Type} : Lit × DataW H → Nat
  | (.string bytes, d) => bytes.length + uptoBulk d + 1
  | (_, d) => uptoBulk d + 1
 end
def uptoSmall : (H : Type) → List (DataW H) → Bool := fun _ ds => decide (uptoBulkAll ds ≤ 1048576)
def OpenSpec.upto (s : _root_.Go.ChangeSpec) : _root_.Go.OpenSpec := { _root_.Go.OpenSpec.ofChange s with cond := some uptoSmall }

/-- 'laws.FnFixDiv', WHERE WHAT IT READS IS OF BULK AT MOST 1048576: true; the input reads as it did. -/
def fnFixDivUptoRow : OpenClaim := { program := "ytenhiaakchlflaa", sum := "f411208ee153066b22dc9a8d22b85d05ccfac1550772e2b434f110a6afb8e630", func := "loop.example/parquetry/laws.FnFixDiv", spec := "fnFixDiv", apart := false, narrowed := true }
def FnFixDivUptoSaid : Prop := fnFixDivUptoRow.holds Try.pinned (OpenSpec.upto fnFixDivSpec)

/-- 'laws.FnVecAdd', WHERE WHAT IT READS IS OF BULK AT MOST 1048576: true; the input reads as it did. -/
def fnVecAddUptoRow : OpenClaim := { program := "ytenhiaakchlflaa", sum := "f411208ee153066b22dc9a8d22b85d05ccfac1550772e2b434f110a6afb8e630", func := "loop.example/parquetry/laws.FnVecAdd", spec := "fnVecAdd", apart := false, narrowed := true }
def FnVecAddUptoSaid : Prop := fnVecAddUptoRow.holds Try.pinned (OpenSpec.upto fnVecAddSpec)

/-- 'laws.FnExactBodyOk', WHERE WHAT IT READS IS OF BULK AT MOST 1048576: true; the input reads as it did. -/
def fnExactBodyOkUptoRow : OpenClaim := { program := "ytenhiaakchlflaa", sum := "f411208ee153066b22dc9a8d22b85d05ccfac1550772e2b434f110a6afb8e630", func := "loop.example/parquetry/laws.FnExactBodyOk", spec := "fnExactBodyOk", apart := false, narrowed := true }
def FnExactBodyOkUptoSaid : Prop := fnExactBodyOkUptoRow.holds Try.pinned (OpenSpec.upto fnExactBodyOkSpec)

/-- 'laws.FnExactShapeHas', WHERE WHAT IT READS IS OF BULK AT MOST 1048576: true; the input reads as it did. -/
def fnExactShapeHasUptoRow : OpenClaim := { program := "ytenhiaakchlflaa", sum := "f411208ee153066b22dc9a8d22b85d05ccfac1550772e2b434f110a6afb8e630", func := "loop.example/parquetry/laws.FnExactShapeHas", spec := "fnExactShapeHas", apart := false, narrowed := true }
def FnExactShapeHasUptoSaid : Prop := fnExactShapeHasUptoRow.holds Try.pinned (OpenSpec.upto fnExactShapeHasSpec)

/-- 'laws.FnFixSqrt', WHERE WHAT IT READS IS OF BULK AT MOST 1048576: true; the input reads as it did. -/
def fnFixSqrtUptoRow : OpenClaim := { program := "ytenhiaakchlflaa", sum := "f411208ee153066b22dc9a8d22b85d05ccfac1550772e2b434f110a6afb8e630", func := "loop.example/parquetry/laws.FnFixSqrt", spec := "fnFixSqrt", apart := false, narrowed := true }
def FnFixSqrtUptoSaid : Prop := fnFixSqrtUptoRow.holds Try.pinned (OpenSpec.upto fnFixSqrtSpec)

/-- 'laws.FnExactVecUnit', WHERE WHAT IT READS IS OF BULK AT MOST 1048576: true; the input reads as it did. -/
def fnExactVecUnitUptoRow : OpenClaim := { program := "ytenhiaakchlflaa", sum := "f411208ee153066b22dc9a8d22b85d05ccfac1550772e2b434f110a6afb8e630", func := "loop.example/parquetry/laws.FnExactVecUnit", spec := "fnExactVecUnit", apart := false, narrowed := true }
def FnExactVecUnitUptoSaid : Prop := fnExactVecUnitUptoRow.holds Try.pinned (OpenSpec.upto fnExactVecUnitSpec)

/-- 'laws.FnExactShapeBounds', WHERE WHAT IT READS IS OF BULK AT MOST 1048576: true; the input reads as it did. -/
def fnExactShapeBoundsUptoRow : OpenClaim := { program := "ytenhiaakchlflaa", sum := "f411208ee153066b22dc9a8d22b85d05ccfac1550772e2b434f110a6afb8e630", func := "loop.example/parquetry/laws.FnExactShapeBounds", spec := "fnExactShapeBounds", apart := false, narrowed := true }
def FnExactShapeBoundsUptoSaid : Prop := fnExactShapeBoundsUptoRow.holds Try.pinned (OpenSpec.upto fnExactShapeBoundsSpec)

/-- 'laws.FnExactBodySleeps', WHERE WHAT IT READS IS OF BULK AT MOST 1048576: true; the input reads as it did. -/
def fnExactBodySleepsUptoRow : OpenClaim := { program := "ytenhiaakchlflaa", sum := "f411208ee153066b22dc9a8d22b85d05ccfac1550772e2b434f110a6afb8e630", func := "loop.example/parquetry/laws.FnExactBodySleeps", spec := "fnExactBodySleeps", apart := false, narrowed := true }
def FnExactBodySleepsUptoSaid : Prop := fnExactBodySleepsUptoRow.holds Try.pinned (OpenSpec.upto fnExactBodySleepsSpec)

/-- 'laws.FnVecDot', WHERE WHAT IT READS IS OF BULK AT MOST 1048576: true; the input reads as it did. -/
def fnVecDotUptoRow : OpenClaim := { program := "ytenhiaakchlflaa", sum := "f411208ee153066b22dc9a8d22b85d05ccfac1550772e2b434f110a6afb8e630", func := "loop.example/parquetry/laws.FnVecDot", spec := "fnVecDot", apart := false, narrowed := true }
def FnVecDotUptoSaid : Prop := fnVecDotUptoRow.holds Try.pinned (OpenSpec.upto fnVecDotSpec)

/-- 'laws.FnBoxHas', WHERE WHAT IT READS IS OF BULK AT MOST 1048576: true; the input reads as it did. -/
def fnBoxHasUptoRow : OpenClaim := { program := "ytenhiaakchlflaa", sum := "f411208ee153066b22dc9a8d22b85d05ccfac1550772e2b434f110a6afb8e630", func := "loop.example/parquetry/laws.FnBoxHas", spec := "fnBoxHas", apart := false, narrowed := true }
def FnBoxHasUptoSaid : Prop := fnBoxHasUptoRow.holds Try.pinned (OpenSpec.upto fnBoxHasSpec)

/-- 'laws.FnVecLen', WHERE WHAT IT READS IS OF BULK AT MOST 1048576: true; the input reads as it did. -/
def fnVecLenUptoRow : OpenClaim := { program := "ytenhiaakchlflaa", sum := "f411208ee153066b22dc9a8d22b85d05ccfac1550772e2b434f110a6afb8e630", func := "loop.example/parquetry/laws.FnVecLen", spec := "fnVecLen", apart := false, narrowed := true }
def FnVecLenUptoSaid : Prop := fnVecLenUptoRow.holds Try.pinned (OpenSpec.upto fnVecLenSpec)

/-- 'laws.FnBoxMeets', WHERE WHAT IT READS IS OF BULK AT MOST 1048576: true; the input reads as it did. -/
def fnBoxMeetsUptoRow : OpenClaim := { program := "ytenhiaakchlflaa", sum := "f411208ee153066b22dc9a8d22b85d05ccfac1550772e2b434f110a6afb8e630", func := "loop.example/parquetry/laws.FnBoxMeets", spec := "fnBoxMeets", apart := false, narrowed := true }
def FnBoxMeetsUptoSaid : Prop := fnBoxMeetsUptoRow.holds Try.pinned (OpenSpec.upto fnBoxMeetsSpec)

end Rows
end Go.Proofs.Ytenhiaakchlflaa
