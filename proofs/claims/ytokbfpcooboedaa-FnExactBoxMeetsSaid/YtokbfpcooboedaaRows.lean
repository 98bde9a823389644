/-
  No cell of these rows narrows 'for every input' (looked for: loops, veiled, ifaces, maps, wideKeys, modest, calm, conditions, laid).
  DERIVED. THE GIVEN ROWS OF THIS SEAT. 12 by the template 'for every input the law returns true; each argument reads behind the call as it read before'; 0 by the template 'total and deterministic' (their statements: YtokbfpcooboedaaTotals.lean).
  GIVEN WITH THE SEED: the statements are not yours to turn. If you find one false, say at which input.
  Laid BY PROGRAM, IN A SANDBOX (cutbox-rows.mjs): the forced cells as the released guide's own fill.sh prints them over the translation 61f87100016af37e… (all of the seat's roots in one cut). By AI agents, Wed Nov 11 2026. No macro, syntax, notation, axiom, sorry.
-/
import Derived.Test.YtokbfpcooboedaaChecked
import GoSem.Claim
import GoSem.ClaimJoined
import GoSem.ClaimMapViews
import Derived.JoinedTies
import Derived.KernelRfl
namespace Go.Proofs.Ytokbfpcooboedaa
/- THE CELL 'sum', in the pinned program and in every row, IS THE sha256 OF THE DUMP (.gsa) THAT YtokbfpcooboedaaProg.lean LOADS. Nothing in Lean hashes anything: it is a label: what it is worth is what the hold of that sum in a sandbox is worth. -/
noncomputable def Try.pinned : Pinned := { name := "ytokbfpcooboedaa", sum := "61f87100016af37e0e11d4a53a64614a8f533193232023131ef8d3cf0a7f55ef", checked := Try.checked }
namespace Rows
def none {H : Type} : Left H := { results := [], args := [] }

/-- 'laws.FnExactConstants': WHATEVER THE INPUT: true; the input reads as it did. -/
def fnExactConstantsSpec : ChangeSpec := { name := "fnExactConstants", fn := fun _ => fun
  | [] => { results := [.lit (.bool true)], args := [] }
  | _ => none }
def fnExactConstantsRow : OpenClaim := { program := "ytokbfpcooboedaa", sum := "61f87100016af37e0e11d4a53a64614a8f533193232023131ef8d3cf0a7f55ef", func := "loop.example/parquetry/laws.FnExactConstants", spec := "fnExactConstants", apart := false }
def FnExactConstantsSaid : Prop := fnExactConstantsRow.holds Try.pinned (OpenSpec.ofChange fnExactConstantsSpec)

/-- ITS FALSE NEIGHBOUR: 'it returns false'. Refute it at one input. -/
def fnExactConstantsWrong : ChangeSpec := { name := "fnExactConstants", fn := fun _ => fun
  | [] => { results := [.lit (.bool false)], args := [] }
  | _ => none }
def FnExactConstantsWrongFalsely : Prop := fnExactConstantsRow.holds Try.pinned (OpenSpec.ofChange fnExactConstantsWrong)

/-- 'laws.FnExactFixClamp': WHATEVER THE INPUT: true; the input reads as it did. -/
def fnExactFixClampSpec : ChangeSpec := { name := "fnExactFixClamp", fn := fun _ => fun
  | [d] => { results := [.lit (.bool true)], args := [d] }
  | _ => none }
def fnExactFixClampRow : OpenClaim := { program := "ytokbfpcooboedaa", sum := "61f87100016af37e0e11d4a53a64614a8f533193232023131ef8d3cf0a7f55ef", func := "loop.example/parquetry/laws.FnExactFixClamp", spec := "fnExactFixClamp", apart := false }
def FnExactFixClampSaid : Prop := fnExactFixClampRow.holds Try.pinned (OpenSpec.ofChange fnExactFixClampSpec)

/-- ITS FALSE NEIGHBOUR: 'it returns false'. Refute it at one input. -/
def fnExactFixClampWrong : ChangeSpec := { name := "fnExactFixClamp", fn := fun _ => fun
  | [d] => { results := [.lit (.bool false)], args := [d] }
  | _ => none }
def FnExactFixClampWrongFalsely : Prop := fnExactFixClampRow.holds Try.pinned (OpenSpec.ofChange fnExactFixClampWrong)

/-- 'laws.FnExactVecOk': WHATEVER THE INPUT: true; the input reads as it did. -/
def fnExactVecOkSpec : ChangeSpec := { name := "fnExactVecOk", fn := fun _ => fun
  | [d] => { results := [.lit (.bool true)], args := [d] }
  | _ => none }
def fnExactVecOkRow : OpenClaim := { program := "ytokbfpcooboedaa", sum := "61f87100016af37e0e11d4a53a64614a8f533193232023131ef8d3cf0a7f55ef", func := "loop.example/parquetry/laws.FnExactVecOk", spec := "fnExactVecOk", apart := false }
def FnExactVecOkSaid : Prop := fnExactVecOkRow.holds Try.pinned (OpenSpec.ofChange fnExactVecOkSpec)

/-- ITS FALSE NEIGHBOUR: 'it returns false'. Refute it at one input. -/
def fnExactVecOkWrong : ChangeSpec := { name := "fnExactVecOk", fn := fun _ => fun
  | [d] => { results := [.lit (.bool false)], args := [d] }
  | _ => none }
def FnExactVecOkWrongFalsely : Prop := fnExactVecOkRow.holds Try.pinned (OpenSpec.ofChange fnExactVecOkWrong)

/-- 'laws.FnExactFixMul': WHATEVER THE INPUT: true; the input reads as it did. -/
def fnExactFixMulSpec : ChangeSpec := { name := "fnExactFixMul", fn := fun _ => fun
  | [d1, d2] => { results := [.lit (.bool true)], args := [d1, d2] }
  | _ => none }
def fnExactFixMulRow : OpenClaim := { program := "ytokbfpcooboedaa", sum := "61f87100016af37e0e11d4a53a64614a8f533193232023131ef8d3cf0a7f55ef", func := "loop.example/parquetry/laws.FnExactFixMul", spec := "fnExactFixMul", apart := false }
def FnExactFixMulSaid : Prop := fnExactFixMulRow.holds Try.pinned (OpenSpec.ofChange fnExactFixMulSpec)

/-- ITS FALSE NEIGHBOUR: 'it returns false'. Refute it at one input. -/
def fnExactFixMulWrong : ChangeSpec := { name := "fnExactFixMul", fn := fun _ => fun
  | [d1, d2] => { results := [.lit (.bool false)], args := [d1, d2] }
  | _ => none }
def FnExactFixMulWrongFalsely : Prop := fnExactFixMulRow.holds Try.pinned (OpenSpec.ofChange fnExactFixMulWrong)

/-- 'laws.FnExactBoxOk': WHATEVER THE INPUT: true; the input reads as it did. -/
def fnExactBoxOkSpec : ChangeSpec := { name := "fnExactBoxOk", fn := fun _ => fun
  | [d] => { results := [.lit (.bool true)], args := [d] }
  | _ => none }
def fnExactBoxOkRow : OpenClaim := { program := "ytokbfpcooboedaa", sum := "61f87100016af37e0e11d4a53a64614a8f533193232023131ef8d3cf0a7f55ef", func := "loop.example/parquetry/laws.FnExactBoxOk", spec := "fnExactBoxOk", apart := false }
def FnExactBoxOkSaid : Prop := fnExactBoxOkRow.holds Try.pinned (OpenSpec.ofChange fnExactBoxOkSpec)

/-- ITS FALSE NEIGHBOUR: 'it returns false'. Refute it at one input. -/
def fnExactBoxOkWrong : ChangeSpec := { name := "fnExactBoxOk", fn := fun _ => fun
  | [d] => { results := [.lit (.bool false)], args := [d] }
  | _ => none }
def FnExactBoxOkWrongFalsely : Prop := fnExactBoxOkRow.holds Try.pinned (OpenSpec.ofChange fnExactBoxOkWrong)

/-- 'laws.FnExactShapeOk': WHATEVER THE INPUT: true; the input reads as it did. -/
def fnExactShapeOkSpec : ChangeSpec := { name := "fnExactShapeOk", fn := fun _ => fun
  | [d] => { results := [.lit (.bool true)], args := [d] }
  | _ => none }
def fnExactShapeOkRow : OpenClaim := { program := "ytokbfpcooboedaa", sum := "61f87100016af37e0e11d4a53a64614a8f533193232023131ef8d3cf0a7f55ef", func := "loop.example/parquetry/laws.FnExactShapeOk", spec := "fnExactShapeOk", apart := false }
def FnExactShapeOkSaid : Prop := fnExactShapeOkRow.holds Try.pinned (OpenSpec.ofChange fnExactShapeOkSpec)

/-- ITS FALSE NEIGHBOUR: 'it returns false'. Refute it at one input. -/
def fnExactShapeOkWrong : ChangeSpec := { name := "fnExactShapeOk", fn := fun _ => fun
  | [d] => { results := [.lit (.bool false)], args := [d] }
  | _ => none }
def FnExactShapeOkWrongFalsely : Prop := fnExactShapeOkRow.holds Try.pinned (OpenSpec.ofChange fnExactShapeOkWrong)

/-- 'laws.FnExactVecDot': WHATEVER THE INPUT: true; the input reads as it did. -/
def fnExactVecDotSpec : ChangeSpec := { name := "fnExactVecDot", fn := fun _ => fun
  | [d1, d2] => { results := [.lit (.bool true)], args := [d1, d2] }
  | _ => none }
def fnExactVecDotRow : OpenClaim := { program := "ytokbfpcooboedaa", sum := "61f87100016af37e0e11d4a53a64614a8f533193232023131ef8d3cf0a7f55ef", func := "loop.example/parquetry/laws.FnExactVecDot", spec := "fnExactVecDot", apart := false }
def FnExactVecDotSaid : Prop := fnExactVecDotRow.holds Try.pinned (OpenSpec.ofChange fnExactVecDotSpec)

/-- ITS FALSE NEIGHBOUR: 'it returns false'. Refute it at one input. -/
def fnExactVecDotWrong : ChangeSpec := { name := "fnExactVecDot", fn := fun _ => fun
  | [d1, d2] => { results := [.lit (.bool false)], args := [d1, d2] }
  | _ => none }
def FnExactVecDotWrongFalsely : Prop := fnExactVecDotRow.holds Try.pinned (OpenSpec.ofChange fnExactVecDotWrong)

/-- 'laws.FnGroupsLeast': WHATEVER THE INPUT: true; the input reads as it did. -/
def fnGroupsLeastSpec : ChangeSpec := { name := "fnGroupsLeast", fn := fun _ => fun
  | [d] => { results := [.lit (.bool true)], args := [d] }
  | _ => none }
def fnGroupsLeastRow : OpenClaim := { program := "ytokbfpcooboedaa", sum := "61f87100016af37e0e11d4a53a64614a8f533193232023131ef8d3cf0a7f55ef", func := "loop.example/parquetry/laws.FnGroupsLeast", spec := "fnGroupsLeast", apart := false }
def FnGroupsLeastSaid : Prop := fnGroupsLeastRow.holds Try.pinned (OpenSpec.ofChange fnGroupsLeastSpec)

/-- ITS FALSE NEIGHBOUR: 'it returns false'. Refute it at one input. -/
def fnGroupsLeastWrong : ChangeSpec := { name := "fnGroupsLeast", fn := fun _ => fun
  | [d] => { results := [.lit (.bool false)], args := [d] }
  | _ => none }
def FnGroupsLeastWrongFalsely : Prop := fnGroupsLeastRow.holds Try.pinned (OpenSpec.ofChange fnGroupsLeastWrong)

/-- 'laws.FnExactFixDiv': WHATEVER THE INPUT: true; the input reads as it did. -/
def fnExactFixDivSpec : ChangeSpec := { name := "fnExactFixDiv", fn := fun _ => fun
  | [d1, d2] => { results := [.lit (.bool true)], args := [d1, d2] }
  | _ => none }
def fnExactFixDivRow : OpenClaim := { program := "ytokbfpcooboedaa", sum := "61f87100016af37e0e11d4a53a64614a8f533193232023131ef8d3cf0a7f55ef", func := "loop.example/parquetry/laws.FnExactFixDiv", spec := "fnExactFixDiv", apart := false }
def FnExactFixDivSaid : Prop := fnExactFixDivRow.holds Try.pinned (OpenSpec.ofChange fnExactFixDivSpec)

/-- ITS FALSE NEIGHBOUR: 'it returns false'. Refute it at one input. -/
def fnExactFixDivWrong : ChangeSpec := { name := "fnExactFixDiv", fn := fun _ => fun
  | [d1, d2] => { results := [.lit (.bool false)], args := [d1, d2] }
  | _ => none }
def FnExactFixDivWrongFalsely : Prop := fnExactFixDivRow.holds Try.pinned (OpenSpec.ofChange fnExactFixDivWrong)

/-- 'laws.FnExactVecMul': WHATEVER THE INPUT: true; the input reads as it did. -/
def fnExactVecMulSpec : ChangeSpec := { name := "fnExactVecMul", fn := fun _ => fun
  | [d1, d2] => { results := [.lit (.bool true)], args := [d1, d2] }
  | _ => none }
def fnExactVecMulRow : OpenClaim := { program := "ytokbfpcooboedaa", sum := "61f87100016af37e0e11d4a53a64614a8f533193232023131ef8d3cf0a7f55ef", func := "loop.example/parquetry/laws.FnExactVecMul", spec := "fnExactVecMul", apart := false }
def FnExactVecMulSaid : Prop := fnExactVecMulRow.holds Try.pinned (OpenSpec.ofChange fnExactVecMulSpec)

/-- ITS FALSE NEIGHBOUR: 'it returns false'. Refute it at one input. -/
def fnExactVecMulWrong : ChangeSpec := { name := "fnExactVecMul", fn := fun _ => fun
  | [d1, d2] => { results := [.lit (.bool false)], args := [d1, d2] }
  | _ => none }
def FnExactVecMulWrongFalsely : Prop := fnExactVecMulRow.holds Try.pinned (OpenSpec.ofChange fnExactVecMulWrong)

/-- 'laws.FnExactBoxHas': WHATEVER THE INPUT: true; the input reads as it did. -/
def fnExactBoxHasSpec : ChangeSpec := { name := "fnExactBoxHas", fn := fun _ => fun
  | [d1, d2] => { results := [.lit (.bool true)], args := [d1, d2] }
  | _ => none }
def fnExactBoxHasRow : OpenClaim := { program := "ytokbfpcooboedaa", sum := "61f87100016af37e0e11d4a53a64614a8f533193232023131ef8d3cf0a7f55ef", func := "loop.example/parquetry/laws.FnExactBoxHas", spec := "fnExactBoxHas", apart := false }
def FnExactBoxHasSaid : Prop := fnExactBoxHasRow.holds Try.pinned (OpenSpec.ofChange fnExactBoxHasSpec)

/-- ITS FALSE NEIGHBOUR: 'it returns false'. Refute it at one input. -/
def fnExactBoxHasWrong : ChangeSpec := { name := "fnExactBoxHas", fn := fun _ => fun
  | [d1, d2] => { results := [.lit (.bool false)], args := [d1, d2] }
  | _ => none }
def FnExactBoxHasWrongFalsely : Prop := fnExactBoxHasRow.holds Try.pinned (OpenSpec.ofChange fnExactBoxHasWrong)

/-- 'laws.FnExactBoxMeets': WHATEVER THE INPUT: true; the input reads as it did. -/
def fnExactBoxMeetsSpec : ChangeSpec := { name := "fnExactBoxMeets", fn := fun _ => fun
  | [d1, d2] => { results := [.lit (.bool true)], args := [d1, d2] }
  | _ => none }
def fnExactBoxMeetsRow : OpenClaim := { program := "ytokbfpcooboedaa", sum := "61f87100016af37e0e11d4a53a64614a8f533193232023131ef8d3cf0a7f55ef", func := "loop.example/parquetry/laws.FnExactBoxMeets", spec := "fnExactBoxMeets", apart := false }
def FnExactBoxMeetsSaid : Prop := fnExactBoxMeetsRow.holds Try.pinned (OpenSpec.ofChange fnExactBoxMeetsSpec)

/-- ITS FALSE NEIGHBOUR: 'it returns false'. Refute it at one input. -/
def fnExactBoxMeetsWrong : ChangeSpec := { name := "fnExactBoxMeets", fn := fun _ => fun
  | [d1, d2] => { results := [.lit (.bool false)], args := [d1, d2] }
  | _ => none }
def FnExactBoxMeetsWrongFalsely : Prop := fnExactBoxMeetsRow.holds Try.pinned (OpenSpec.ofChange fnExactBoxMeetsWrong)

/- THE SECOND FORM. 'bulk': how many values and letters a reading holds, each counted each time it is reached (what is shared counts as often as it is met; a slice's spare places count too). A statement '..UptoSaid' is the law's where the arguments, and the package variables that the reading takes, are together of bulk at most 1048576: NARROWER than '..Said'. Prove '..Said' where nothing that the law and all that it calls make is longer than what came in: it says more and counts as full. Else prove '..UptoSaid'. A law counts once. -/
mutual
def uptoBulk {H : Type} : DataW H → Nat
  | .lit (.string bytes) => bytes.length + 1
  | .lit _ => 1
  | .nil => 1
  | .ptr d => uptoBulk d + 1
  | .slice elems spare => uptoBulkAll elems + uptoBulkAll spare + 1
  | .agg parts => uptoBulkAll parts + 1
  | .iface _ d => uptoBulk d + 1
  | .map entries => uptoBulkEntries entries + 1
  | .held _ => 1
def uptoBulkAll {H : Type} : List (DataW H) → Nat
  | [] => 0
  | d :: r => uptoBulk d + uptoBulkAll r
def uptoBulkEntries {H : Type} : List (Lit × DataW H) → Nat
  | [] => 0
  | x :: r => uptoBulkEntry x + uptoBulkEntries r
def uptoBulkEntry {H : Type} : Lit × DataW H → Nat
  | (.string bytes, d) => bytes.length + uptoBulk d + 1
  | (_, d) => uptoBulk d + 1
 end
def uptoSmall : (H : Type) → List (DataW H) → Bool := fun _ ds => decide (uptoBulkAll ds ≤ 1048576)
def OpenSpec.upto (s : _root_.Go.ChangeSpec) : _root_.Go.OpenSpec := { _root_.Go.OpenSpec.ofChange s with cond := some uptoSmall }

/-- 'laws.FnExactConstants', WHERE WHAT IT READS IS OF BULK AT MOST 1048576: true; the input reads as it did. -/
def fnExactConstantsUptoRow : OpenClaim := { program := "ytokbfpcooboedaa", sum := "61f87100016af37e0e11d4a53a64614a8f533193232023131ef8d3cf0a7f55ef", func := "loop.example/parquetry/laws.FnExactConstants", spec := "fnExactConstants", apart := false, narrowed := true }
def FnExactConstantsUptoSaid : Prop := fnExactConstantsUptoRow.holds Try.pinned (OpenSpec.upto fnExactConstantsSpec)

/-- 'laws.FnExactFixClamp', WHERE WHAT IT READS IS OF BULK AT MOST 1048576: true; the input reads as it did. -/
def fnExactFixClampUptoRow : OpenClaim := { program := "ytokbfpcooboedaa", sum := "61f87100016af37e0e11d4a53a64614a8f533193232023131ef8d3cf0a7f55ef", func := "loop.example/parquetry/laws.FnExactFixClamp", spec := "fnExactFixClamp", apart := false, narrowed := true }
def FnExactFixClampUptoSaid : Prop := fnExactFixClampUptoRow.holds Try.pinned (OpenSpec.upto fnExactFixClampSpec)

/-- 'laws.FnExactVecOk', WHERE WHAT IT READS IS OF BULK AT MOST 1048576: true; the input reads as it did. -/
def fnExactVecOkUptoRow : OpenClaim := { program := "ytokbfpcooboedaa", sum := "61f87100016af37e0e11d4a53a64614a8f533193232023131ef8d3cf0a7f55ef", func := "loop.example/parquetry/laws.FnExactVecOk", spec := "fnExactVecOk", apart := false, narrowed := true }
def FnExactVecOkUptoSaid : Prop := fnExactVecOkUptoRow.holds Try.pinned (OpenSpec.upto fnExactVecOkSpec)

/-- 'laws.FnExactFixMul', WHERE WHAT IT READS IS OF BULK AT MOST 1048576: true; the input reads as it did. -/
def fnExactFixMulUptoRow : OpenClaim := { program := "ytokbfpcooboedaa", sum := "61f87100016af37e0e11d4a53a64614a8f533193232023131ef8d3cf0a7f55ef", func := "loop.example/parquetry/laws.FnExactFixMul", spec := "fnExactFixMul", apart := false, narrowed := true }
def FnExactFixMulUptoSaid : Prop := fnExactFixMulUptoRow.holds Try.pinned (OpenSpec.upto fnExactFixMulSpec)

/-- 'laws.FnExactBoxOk', WHERE WHAT IT READS IS OF BULK AT MOST 1048576: true; the input reads as it did. -/
def fnExactBoxOkUptoRow : OpenClaim := { program := "ytokbfpcooboedaa", sum := "61f87100016af37e0e11d4a53a64614a8f533193232023131ef8d3cf0a7f55ef", func := "loop.example/parquetry/laws.FnExactBoxOk", spec := "fnExactBoxOk", apart := false, narrowed := true }
def FnExactBoxOkUptoSaid : Prop := fnExactBoxOkUptoRow.holds Try.pinned (OpenSpec.upto fnExactBoxOkSpec)

/-- 'laws.FnExactShapeOk', WHERE WHAT IT READS IS OF BULK AT MOST 1048576: true; the input reads as it did. -/
def fnExactShapeOkUptoRow : OpenClaim := { program := "ytokbfpcooboedaa", sum := "61f87100016af37e0e11d4a53a64614a8f533193232023131ef8d3cf0a7f55ef", func := "loop.example/parquetry/laws.FnExactShapeOk", spec := "fnExactShapeOk", apart := false, narrowed := true }
def FnExactShapeOkUptoSaid : Prop := fnExactShapeOkUptoRow.holds Try.pinned (OpenSpec.upto fnExactShapeOkSpec)

/-- 'laws.FnExactVecDot', WHERE WHAT IT READS IS OF BULK AT MOST 1048576: true; the input reads as it did. -/
def fnExactVecDotUptoRow : OpenClaim := { program := "ytokbfpcooboedaa", sum := "61f87100016af37e0e11d4a53a64614a8f533193232023131ef8d3cf0a7f55ef", func := "loop.example/parquetry/laws.FnExactVecDot", spec := "fnExactVecDot", apart := false, narrowed := true }
def FnExactVecDotUptoSaid : Prop := fnExactVecDotUptoRow.holds Try.pinned (OpenSpec.upto fnExactVecDotSpec)

/-- 'laws.FnGroupsLeast', WHERE WHAT IT READS IS OF BULK AT MOST 1048576: true; the input reads as it did. -/
def fnGroupsLeastUptoRow : OpenClaim := { program := "ytokbfpcooboedaa", sum := "61f87100016af37e0e11d4a53a64614a8f533193232023131ef8d3cf0a7f55ef", func := "loop.example/parquetry/laws.FnGroupsLeast", spec := "fnGroupsLeast", apart := false, narrowed := true }
def FnGroupsLeastUptoSaid : Prop := fnGroupsLeastUptoRow.holds Try.pinned (OpenSpec.upto fnGroupsLeastSpec)

/-- 'laws.FnExactFixDiv', WHERE WHAT IT READS IS OF BULK AT MOST 1048576: true; the input reads as it did. -/
def fnExactFixDivUptoRow : OpenClaim := { program := "ytokbfpcooboedaa", sum := "61f87100016af37e0e11d4a53a64614a8f533193232023131ef8d3cf0a7f55ef", func := "loop.example/parquetry/laws.FnExactFixDiv", spec := "fnExactFixDiv", apart := false, narrowed := true }
def FnExactFixDivUptoSaid : Prop := fnExactFixDivUptoRow.holds Try.pinned (OpenSpec.upto fnExactFixDivSpec)

/-- 'laws.FnExactVecMul', WHERE WHAT IT READS IS OF BULK AT MOST 1048576: true; the input reads as it did. -/
def fnExactVecMulUptoRow : OpenClaim := { program := "ytokbfpcooboedaa", sum := "61f87100016af37e0e11d4a53a64614a8f533193232023131ef8d3cf0a7f55ef", func := "loop.example/parquetry/laws.FnExactVecMul", spec := "fnExactVecMul", apart := false, narrowed := true }
def FnExactVecMulUptoSaid : Prop := fnExactVecMulUptoRow.holds Try.pinned (OpenSpec.upto fnExactVecMulSpec)

/-- 'laws.FnExactBoxHas', WHERE WHAT IT READS IS OF BULK AT MOST 1048576: true; the input reads as it did. -/
def fnExactBoxHasUptoRow : OpenClaim := { program := "ytokbfpcooboedaa", sum := "61f87100016af37e0e11d4a53a64614a8f533193232023131ef8d3cf0a7f55ef", func := "loop.example/parquetry/laws.FnExactBoxHas", spec := "fnExactBoxHas", apart := false, narrowed := true }
def FnExactBoxHasUptoSaid : Prop := fnExactBoxHasUptoRow.holds Try.pinned (OpenSpec.upto fnExactBoxHasSpec)

/-- 'laws.FnExactBoxMeets', WHERE WHAT IT READS IS OF BULK AT MOST 1048576: true; the input reads as it did. -/
def fnExactBoxMeetsUptoRow : OpenClaim := { program := "ytokbfpcooboedaa", sum := "61f87100016af37e0e11d4a53a64614a8f533193232023131ef8d3cf0a7f55ef", func := "loop.example/parquetry/laws.FnExactBoxMeets", spec := "fnExactBoxMeets", apart := false, narrowed := true }
def FnExactBoxMeetsUptoSaid : Prop := fnExactBoxMeetsUptoRow.holds Try.pinned (OpenSpec.upto fnExactBoxMeetsSpec)

end Rows
end Go.Proofs.Ytokbfpcooboedaa
