/-
  No cell of these rows narrows 'for every input' (looked for: loops, veiled, ifaces, maps, wideKeys, modest, calm, conditions, laid).
  DERIVED. THE GIVEN ROWS OF THIS SEAT. 12 by the template 'for every input the law returns true; each argument reads behind the call as it read before'; 0 by the template 'total and deterministic' (their statements: YtmmjjkfiplllnaaTotals.lean).
  GIVEN WITH THE SEED: the statements are not yours to turn. If you find one false, say at which input.
  Laid BY PROGRAM, IN A SANDBOX (cutbox-rows.mjs): the forced cells as the released guide's own fill.sh prints them over the translation 144e5377dcc23bc0… (all of the seat's roots in one cut). By AI agents, Wed Nov 11 2026. No macro, syntax, notation, axiom, sorry.
-/
import Derived.Test.YtmmjjkfiplllnaaChecked
import GoSem.Claim
import GoSem.ClaimJoined
import GoSem.ClaimMapViews
import Derived.JoinedTies
import Derived.KernelRfl
namespace Go.Proofs.Ytmmjjkfiplllnaa
/- THE CELL 'sum', in the pinned program and in every row, IS THE sha256 OF THE DUMP (.gsa) THAT YtmmjjkfiplllnaaProg.lean LOADS. Nothing in Lean hashes anything: it is a label: what it is worth is what the hold of that sum in a sandbox is worth. -/
noncomputable def Try.pinned : Pinned := { name := "ytmmjjkfiplllnaa", sum := "144e5377dcc23bc0ec2601be8f9a6f44ff5ffbe04f28e195efc82cb83b7d4cb8", checked := Try.checked }
namespace Rows
def none {H : Type} : Left H := { results := [], args := [] }

/-- 'laws.FnExactVecAdd': WHATEVER THE INPUT: true; the input reads as it did. -/
def fnExactVecAddSpec : ChangeSpec := { name := "fnExactVecAdd", fn := fun _ => fun
  | [d1, d2] => { results := [.lit (.bool true)], args := [d1, d2] }
  | _ => none }
def fnExactVecAddRow : OpenClaim := { program := "ytmmjjkfiplllnaa", sum := "144e5377dcc23bc0ec2601be8f9a6f44ff5ffbe04f28e195efc82cb83b7d4cb8", func := "loop.example/parquetry/laws.FnExactVecAdd", spec := "fnExactVecAdd", apart := false }
def FnExactVecAddSaid : Prop := fnExactVecAddRow.holds Try.pinned (OpenSpec.ofChange fnExactVecAddSpec)

/-- ITS FALSE NEIGHBOUR: 'it returns false'. Refute it at one input. -/
def fnExactVecAddWrong : ChangeSpec := { name := "fnExactVecAdd", fn := fun _ => fun
  | [d1, d2] => { results := [.lit (.bool false)], args := [d1, d2] }
  | _ => none }
def FnExactVecAddWrongFalsely : Prop := fnExactVecAddRow.holds Try.pinned (OpenSpec.ofChange fnExactVecAddWrong)

/-- 'laws.FnExactVecSub': WHATEVER THE INPUT: true; the input reads as it did. -/
def fnExactVecSubSpec : ChangeSpec := { name := "fnExactVecSub", fn := fun _ => fun
  | [d1, d2] => { results := [.lit (.bool true)], args := [d1, d2] }
  | _ => none }
def fnExactVecSubRow : OpenClaim := { program := "ytmmjjkfiplllnaa", sum := "144e5377dcc23bc0ec2601be8f9a6f44ff5ffbe04f28e195efc82cb83b7d4cb8", func := "loop.example/parquetry/laws.FnExactVecSub", spec := "fnExactVecSub", apart := false }
def FnExactVecSubSaid : Prop := fnExactVecSubRow.holds Try.pinned (OpenSpec.ofChange fnExactVecSubSpec)

/-- ITS FALSE NEIGHBOUR: 'it returns false'. Refute it at one input. -/
def fnExactVecSubWrong : ChangeSpec := { name := "fnExactVecSub", fn := fun _ => fun
  | [d1, d2] => { results := [.lit (.bool false)], args := [d1, d2] }
  | _ => none }
def FnExactVecSubWrongFalsely : Prop := fnExactVecSubRow.holds Try.pinned (OpenSpec.ofChange fnExactVecSubWrong)

/-- 'laws.FnGroupAwake': WHATEVER THE INPUT: true; the input reads as it did. -/
def fnGroupAwakeSpec : ChangeSpec := { name := "fnGroupAwake", fn := fun _ => fun
  | [d] => { results := [.lit (.bool true)], args := [d] }
  | _ => none }
def fnGroupAwakeRow : OpenClaim := { program := "ytmmjjkfiplllnaa", sum := "144e5377dcc23bc0ec2601be8f9a6f44ff5ffbe04f28e195efc82cb83b7d4cb8", func := "loop.example/parquetry/laws.FnGroupAwake", spec := "fnGroupAwake", apart := false }
def FnGroupAwakeSaid : Prop := fnGroupAwakeRow.holds Try.pinned (OpenSpec.ofChange fnGroupAwakeSpec)

/-- ITS FALSE NEIGHBOUR: 'it returns false'. Refute it at one input. -/
def fnGroupAwakeWrong : ChangeSpec := { name := "fnGroupAwake", fn := fun _ => fun
  | [d] => { results := [.lit (.bool false)], args := [d] }
  | _ => none }
def FnGroupAwakeWrongFalsely : Prop := fnGroupAwakeRow.holds Try.pinned (OpenSpec.ofChange fnGroupAwakeWrong)

/-- 'laws.FnFixClamp': WHATEVER THE INPUT: true; the input reads as it did. -/
def fnFixClampSpec : ChangeSpec := { name := "fnFixClamp", fn := fun _ => fun
  | [d] => { results := [.lit (.bool true)], args := [d] }
  | _ => none }
def fnFixClampRow : OpenClaim := { program := "ytmmjjkfiplllnaa", sum := "144e5377dcc23bc0ec2601be8f9a6f44ff5ffbe04f28e195efc82cb83b7d4cb8", func := "loop.example/parquetry/laws.FnFixClamp", spec := "fnFixClamp", apart := false }
def FnFixClampSaid : Prop := fnFixClampRow.holds Try.pinned (OpenSpec.ofChange fnFixClampSpec)

/-- ITS FALSE NEIGHBOUR: 'it returns false'. Refute it at one input. -/
def fnFixClampWrong : ChangeSpec := { name := "fnFixClamp", fn := fun _ => fun
  | [d] => { results := [.lit (.bool false)], args := [d] }
  | _ => none }
def FnFixClampWrongFalsely : Prop := fnFixClampRow.holds Try.pinned (OpenSpec.ofChange fnFixClampWrong)

/-- 'laws.FnExactFixSqrt': WHATEVER THE INPUT: true; the input reads as it did. -/
def fnExactFixSqrtSpec : ChangeSpec := { name := "fnExactFixSqrt", fn := fun _ => fun
  | [d] => { results := [.lit (.bool true)], args := [d] }
  | _ => none }
def fnExactFixSqrtRow : OpenClaim := { program := "ytmmjjkfiplllnaa", sum := "144e5377dcc23bc0ec2601be8f9a6f44ff5ffbe04f28e195efc82cb83b7d4cb8", func := "loop.example/parquetry/laws.FnExactFixSqrt", spec := "fnExactFixSqrt", apart := false }
def FnExactFixSqrtSaid : Prop := fnExactFixSqrtRow.holds Try.pinned (OpenSpec.ofChange fnExactFixSqrtSpec)

/-- ITS FALSE NEIGHBOUR: 'it returns false'. Refute it at one input. -/
def fnExactFixSqrtWrong : ChangeSpec := { name := "fnExactFixSqrt", fn := fun _ => fun
  | [d] => { results := [.lit (.bool false)], args := [d] }
  | _ => none }
def FnExactFixSqrtWrongFalsely : Prop := fnExactFixSqrtRow.holds Try.pinned (OpenSpec.ofChange fnExactFixSqrtWrong)

/-- 'laws.FnFixMul': WHATEVER THE INPUT: true; the input reads as it did. -/
def fnFixMulSpec : ChangeSpec := { name := "fnFixMul", fn := fun _ => fun
  | [d] => { results := [.lit (.bool true)], args := [d] }
  | _ => none }
def fnFixMulRow : OpenClaim := { program := "ytmmjjkfiplllnaa", sum := "144e5377dcc23bc0ec2601be8f9a6f44ff5ffbe04f28e195efc82cb83b7d4cb8", func := "loop.example/parquetry/laws.FnFixMul", spec := "fnFixMul", apart := false }
def FnFixMulSaid : Prop := fnFixMulRow.holds Try.pinned (OpenSpec.ofChange fnFixMulSpec)

/-- ITS FALSE NEIGHBOUR: 'it returns false'. Refute it at one input. -/
def fnFixMulWrong : ChangeSpec := { name := "fnFixMul", fn := fun _ => fun
  | [d] => { results := [.lit (.bool false)], args := [d] }
  | _ => none }
def FnFixMulWrongFalsely : Prop := fnFixMulRow.holds Try.pinned (OpenSpec.ofChange fnFixMulWrong)

/-- 'laws.FnExactVecLen': WHATEVER THE INPUT: true; the input reads as it did. -/
def fnExactVecLenSpec : ChangeSpec := { name := "fnExactVecLen", fn := fun _ => fun
  | [d] => { results := [.lit (.bool true)], args := [d] }
  | _ => none }
def fnExactVecLenRow : OpenClaim := { program := "ytmmjjkfiplllnaa", sum := "144e5377dcc23bc0ec2601be8f9a6f44ff5ffbe04f28e195efc82cb83b7d4cb8", func := "loop.example/parquetry/laws.FnExactVecLen", spec := "fnExactVecLen", apart := false }
def FnExactVecLenSaid : Prop := fnExactVecLenRow.holds Try.pinned (OpenSpec.ofChange fnExactVecLenSpec)

/-- ITS FALSE NEIGHBOUR: 'it returns false'. Refute it at one input. -/
def fnExactVecLenWrong : ChangeSpec := { name := "fnExactVecLen", fn := fun _ => fun
  | [d] => { results := [.lit (.bool false)], args := [d] }
  | _ => none }
def FnExactVecLenWrongFalsely : Prop := fnExactVecLenRow.holds Try.pinned (OpenSpec.ofChange fnExactVecLenWrong)

/-- 'laws.FnExactBoxNear': WHATEVER THE INPUT: true; the input reads as it did. -/
def fnExactBoxNearSpec : ChangeSpec := { name := "fnExactBoxNear", fn := fun _ => fun
  | [d1, d2] => { results := [.lit (.bool true)], args := [d1, d2] }
  | _ => none }
def fnExactBoxNearRow : OpenClaim := { program := "ytmmjjkfiplllnaa", sum := "144e5377dcc23bc0ec2601be8f9a6f44ff5ffbe04f28e195efc82cb83b7d4cb8", func := "loop.example/parquetry/laws.FnExactBoxNear", spec := "fnExactBoxNear", apart := false }
def FnExactBoxNearSaid : Prop := fnExactBoxNearRow.holds Try.pinned (OpenSpec.ofChange fnExactBoxNearSpec)

/-- ITS FALSE NEIGHBOUR: 'it returns false'. Refute it at one input. -/
def fnExactBoxNearWrong : ChangeSpec := { name := "fnExactBoxNear", fn := fun _ => fun
  | [d1, d2] => { results := [.lit (.bool false)], args := [d1, d2] }
  | _ => none }
def FnExactBoxNearWrongFalsely : Prop := fnExactBoxNearRow.holds Try.pinned (OpenSpec.ofChange fnExactBoxNearWrong)

/-- 'laws.FnVecMul': WHATEVER THE INPUT: true; the input reads as it did. -/
def fnVecMulSpec : ChangeSpec := { name := "fnVecMul", fn := fun _ => fun
  | [d] => { results := [.lit (.bool true)], args := [d] }
  | _ => none }
def fnVecMulRow : OpenClaim := { program := "ytmmjjkfiplllnaa", sum := "144e5377dcc23bc0ec2601be8f9a6f44ff5ffbe04f28e195efc82cb83b7d4cb8", func := "loop.example/parquetry/laws.FnVecMul", spec := "fnVecMul", apart := false }
def FnVecMulSaid : Prop := fnVecMulRow.holds Try.pinned (OpenSpec.ofChange fnVecMulSpec)

/-- ITS FALSE NEIGHBOUR: 'it returns false'. Refute it at one input. -/
def fnVecMulWrong : ChangeSpec := { name := "fnVecMul", fn := fun _ => fun
  | [d] => { results := [.lit (.bool false)], args := [d] }
  | _ => none }
def FnVecMulWrongFalsely : Prop := fnVecMulRow.holds Try.pinned (OpenSpec.ofChange fnVecMulWrong)

/-- 'laws.FnVecSub': WHATEVER THE INPUT: true; the input reads as it did. -/
def fnVecSubSpec : ChangeSpec := { name := "fnVecSub", fn := fun _ => fun
  | [d] => { results := [.lit (.bool true)], args := [d] }
  | _ => none }
def fnVecSubRow : OpenClaim := { program := "ytmmjjkfiplllnaa", sum := "144e5377dcc23bc0ec2601be8f9a6f44ff5ffbe04f28e195efc82cb83b7d4cb8", func := "loop.example/parquetry/laws.FnVecSub", spec := "fnVecSub", apart := false }
def FnVecSubSaid : Prop := fnVecSubRow.holds Try.pinned (OpenSpec.ofChange fnVecSubSpec)

/-- ITS FALSE NEIGHBOUR: 'it returns false'. Refute it at one input. -/
def fnVecSubWrong : ChangeSpec := { name := "fnVecSub", fn := fun _ => fun
  | [d] => { results := [.lit (.bool false)], args := [d] }
  | _ => none }
def FnVecSubWrongFalsely : Prop := fnVecSubRow.holds Try.pinned (OpenSpec.ofChange fnVecSubWrong)

/-- 'laws.FnGroupOf': WHATEVER THE INPUT: true; the input reads as it did. -/
def fnGroupOfSpec : ChangeSpec := { name := "fnGroupOf", fn := fun _ => fun
  | [d] => { results := [.lit (.bool true)], args := [d] }
  | _ => none }
def fnGroupOfRow : OpenClaim := { program := "ytmmjjkfiplllnaa", sum := "144e5377dcc23bc0ec2601be8f9a6f44ff5ffbe04f28e195efc82cb83b7d4cb8", func := "loop.example/parquetry/laws.FnGroupOf", spec := "fnGroupOf", apart := false }
def FnGroupOfSaid : Prop := fnGroupOfRow.holds Try.pinned (OpenSpec.ofChange fnGroupOfSpec)

/-- ITS FALSE NEIGHBOUR: 'it returns false'. Refute it at one input. -/
def fnGroupOfWrong : ChangeSpec := { name := "fnGroupOf", fn := fun _ => fun
  | [d] => { results := [.lit (.bool false)], args := [d] }
  | _ => none }
def FnGroupOfWrongFalsely : Prop := fnGroupOfRow.holds Try.pinned (OpenSpec.ofChange fnGroupOfWrong)

/-- 'laws.FnExactBoxBoth': WHATEVER THE INPUT: true; the input reads as it did. -/
def fnExactBoxBothSpec : ChangeSpec := { name := "fnExactBoxBoth", fn := fun _ => fun
  | [d1, d2] => { results := [.lit (.bool true)], args := [d1, d2] }
  | _ => none }
def fnExactBoxBothRow : OpenClaim := { program := "ytmmjjkfiplllnaa", sum := "144e5377dcc23bc0ec2601be8f9a6f44ff5ffbe04f28e195efc82cb83b7d4cb8", func := "loop.example/parquetry/laws.FnExactBoxBoth", spec := "fnExactBoxBoth", apart := false }
def FnExactBoxBothSaid : Prop := fnExactBoxBothRow.holds Try.pinned (OpenSpec.ofChange fnExactBoxBothSpec)

/-- ITS FALSE NEIGHBOUR: 'it returns false'. Refute it at one input. -/
def fnExactBoxBothWrong : ChangeSpec := { name := "fnExactBoxBoth", fn := fun _ => fun
  | [d1, d2] => { results := [.lit (.bool false)], args := [d1, d2] }
  | _ => none }
def FnExactBoxBothWrongFalsely : Prop := fnExactBoxBothRow.holds Try.pinned (OpenSpec.ofChange fnExactBoxBothWrong)

/- THE SECOND FORM. 'bulk': how many values and letters a reading holds, each counted each time it is reached (what is shared counts as often as it is met; a slice's spare places count too). A statement '..UptoSaid' is the law's where the arguments, and the package variables that the reading takes, are together of bulk at most 1048576: NARROWER than '..Said'. Prove '..Said' where nothing that the law and all that it calls make is longer than what came in: it says more and counts as full. Else prove '..UptoSaid'. A law counts once. -/
mutual
def uptoBulk {H : Type} : DataW H → Nat
  | .lit (.string bytes) => bytes.length + 1
  | .lit _ => 1
  | .nil => 1
  | .ptr d => uptoBulk d + 1
  | .slice elems spare => uptoBulkAll elems + uptoBulkAll spare + 1
  | .agg parts => uptoBulkAll parts + 1
  | .iface _ d => uptoBulk d + 1
  | .map entries => uptoBulkEntries entries + 1
  | .held _ => 1
def uptoBulkAll {H : Type} : List (DataW H) → Nat
  | [] => 0
  | d :: r => uptoBulk d + uptoBulkAll r
def uptoBulkEntries {H : Type} : List (Lit × DataW H) → Nat
  | [] => 0
  | x :: r => uptoBulkEntry x + uptoBulkEntries r
def uptoBulkEntry {H : Type} : Lit × DataW H → Nat
  | (.string bytes, d) => bytes.length + uptoBulk d + 1
  | (_, d) => uptoBulk d + 1
 end
def uptoSmall : (H : Type) → List (DataW H) → Bool := fun _ ds => decide (uptoBulkAll ds ≤ 1048576)
def OpenSpec.upto (s : _root_.Go.ChangeSpec) : _root_.Go.OpenSpec := { _root_.Go.OpenSpec.ofChange s with cond := some uptoSmall }

/-- 'laws.FnExactVecAdd', WHERE WHAT IT READS IS OF BULK AT MOST 1048576: true; the input reads as it did. -/
def fnExactVecAddUptoRow : OpenClaim := { program := "ytmmjjkfiplllnaa", sum := "144e5377dcc23bc0ec2601be8f9a6f44ff5ffbe04f28e195efc82cb83b7d4cb8", func := "loop.example/parquetry/laws.FnExactVecAdd", spec := "fnExactVecAdd", apart := false, narrowed := true }
def FnExactVecAddUptoSaid : Prop := fnExactVecAddUptoRow.holds Try.pinned (OpenSpec.upto fnExactVecAddSpec)

/-- 'laws.FnExactVecSub', WHERE WHAT IT READS IS OF BULK AT MOST 1048576: true; the input reads as it did. -/
def fnExactVecSubUptoRow : OpenClaim := { program := "ytmmjjkfiplllnaa", sum := "144e5377dcc23bc0ec2601be8f9a6f44ff5ffbe04f28e195efc82cb83b7d4cb8", func := "loop.example/parquetry/laws.FnExactVecSub", spec := "fnExactVecSub", apart := false, narrowed := true }
def FnExactVecSubUptoSaid : Prop := fnExactVecSubUptoRow.holds Try.pinned (OpenSpec.upto fnExactVecSubSpec)

/-- 'laws.FnGroupAwake', WHERE WHAT IT READS IS OF BULK AT MOST 1048576: true; the input reads as it did. -/
def fnGroupAwakeUptoRow : OpenClaim := { program := "ytmmjjkfiplllnaa", sum := "144e5377dcc23bc0ec2601be8f9a6f44ff5ffbe04f28e195efc82cb83b7d4cb8", func := "loop.example/parquetry/laws.FnGroupAwake", spec := "fnGroupAwake", apart := false, narrowed := true }
def FnGroupAwakeUptoSaid : Prop := fnGroupAwakeUptoRow.holds Try.pinned (OpenSpec.upto fnGroupAwakeSpec)

/-- 'laws.FnFixClamp', WHERE WHAT IT READS IS OF BULK AT MOST 1048576: true; the input reads as it did. -/
def fnFixClampUptoRow : OpenClaim := { program := "ytmmjjkfiplllnaa", sum := "144e5377dcc23bc0ec2601be8f9a6f44ff5ffbe04f28e195efc82cb83b7d4cb8", func := "loop.example/parquetry/laws.FnFixClamp", spec := "fnFixClamp", apart := false, narrowed := true }
def FnFixClampUptoSaid : Prop := fnFixClampUptoRow.holds Try.pinned (OpenSpec.upto fnFixClampSpec)

/-- 'laws.FnExactFixSqrt', WHERE WHAT IT READS IS OF BULK AT MOST 1048576: true; the input reads as it did. -/
def fnExactFixSqrtUptoRow : OpenClaim := { program := "ytmmjjkfiplllnaa", sum := "144e5377dcc23bc0ec2601be8f9a6f44ff5ffbe04f28e195efc82cb83b7d4cb8", func := "loop.example/parquetry/laws.FnExactFixSqrt", spec := "fnExactFixSqrt", apart := false, narrowed := true }
def FnExactFixSqrtUptoSaid : Prop := fnExactFixSqrtUptoRow.holds Try.pinned (OpenSpec.upto fnExactFixSqrtSpec)

/-- 'laws.FnFixMul', WHERE WHAT IT READS IS OF BULK AT MOST 1048576: true; the input reads as it did. -/
def fnFixMulUptoRow : OpenClaim := { program := "ytmmjjkfiplllnaa", sum := "144e5377dcc23bc0ec2601be8f9a6f44ff5ffbe04f28e195efc82cb83b7d4cb8", func := "loop.example/parquetry/laws.FnFixMul", spec := "fnFixMul", apart := false, narrowed := true }
def FnFixMulUptoSaid : Prop := fnFixMulUptoRow.holds Try.pinned (OpenSpec.upto fnFixMulSpec)

/-- 'laws.FnExactVecLen', WHERE WHAT IT READS IS OF BULK AT MOST 1048576: true; the input reads as it did. -/
def fnExactVecLenUptoRow : OpenClaim := { program := "ytmmjjkfiplllnaa", sum := "144e5377dcc23bc0ec2601be8f9a6f44ff5ffbe04f28e195efc82cb83b7d4cb8", func := "loop.example/parquetry/laws.FnExactVecLen", spec := "fnExactVecLen", apart := false, narrowed := true }
def FnExactVecLenUptoSaid : Prop := fnExactVecLenUptoRow.holds Try.pinned (OpenSpec.upto fnExactVecLenSpec)

/-- 'laws.FnExactBoxNear', WHERE WHAT IT READS IS OF BULK AT MOST 1048576: true; the input reads as it did. -/
def fnExactBoxNearUptoRow : OpenClaim := { program := "ytmmjjkfiplllnaa", sum := "144e5377dcc23bc0ec2601be8f9a6f44ff5ffbe04f28e195efc82cb83b7d4cb8", func := "loop.example/parquetry/laws.FnExactBoxNear", spec := "fnExactBoxNear", apart := false, narrowed := true }
def FnExactBoxNearUptoSaid : Prop := fnExactBoxNearUptoRow.holds Try.pinned (OpenSpec.upto fnExactBoxNearSpec)

/-- 'laws.FnVecMul', WHERE WHAT IT READS IS OF BULK AT MOST 1048576: true; the input reads as it did. -/
def fnVecMulUptoRow : OpenClaim := { program := "ytmmjjkfiplllnaa", sum := "144e5377dcc23bc0ec2601be8f9a6f44ff5ffbe04f28e195efc82cb83b7d4cb8", func := "loop.example/parquetry/laws.FnVecMul", spec := "fnVecMul", apart := false, narrowed := true }
def FnVecMulUptoSaid : Prop := fnVecMulUptoRow.holds Try.pinned (OpenSpec.upto fnVecMulSpec)

/-- 'laws.FnVecSub', WHERE WHAT IT READS IS OF BULK AT MOST 1048576: true; the input reads as it did. -/
def fnVecSubUptoRow : OpenClaim := { program := "ytmmjjkfiplllnaa", sum := "144e5377dcc23bc0ec2601be8f9a6f44ff5ffbe04f28e195efc82cb83b7d4cb8", func := "loop.example/parquetry/laws.FnVecSub", spec := "fnVecSub", apart := false, narrowed := true }
def FnVecSubUptoSaid : Prop := fnVecSubUptoRow.holds Try.pinned (OpenSpec.upto fnVecSubSpec)

/-- 'laws.FnGroupOf', WHERE WHAT IT READS IS OF BULK AT MOST 1048576: true; the input reads as it did. -/
def fnGroupOfUptoRow : OpenClaim := { program := "ytmmjjkfiplllnaa", sum := "144e5377dcc23bc0ec2601be8f9a6f44ff5ffbe04f28e195efc82cb83b7d4cb8", func := "loop.example/parquetry/laws.FnGroupOf", spec := "fnGroupOf", apart := false, narrowed := true }
def FnGroupOfUptoSaid : Prop := fnGroupOfUptoRow.holds Try.pinned (OpenSpec.upto fnGroupOfSpec)

/-- 'laws.FnExactBoxBoth', WHERE WHAT IT READS IS OF BULK AT MOST 1048576: true; the input reads as it did. -/
def fnExactBoxBothUptoRow : OpenClaim := { program := "ytmmjjkfiplllnaa", sum := "144e5377dcc23bc0ec2601be8f9a6f44ff5ffbe04f28e195efc82cb83b7d4cb8", func := "loop.example/parquetry/laws.FnExactBoxBoth", spec := "fnExactBoxBoth", apart := false, narrowed := true }
def FnExactBoxBothUptoSaid : Prop := fnExactBoxBothUptoRow.holds Try.pinned (OpenSpec.upto fnExactBoxBothSpec)

end Rows
end Go.Proofs.Ytmmjjkfiplllnaa
