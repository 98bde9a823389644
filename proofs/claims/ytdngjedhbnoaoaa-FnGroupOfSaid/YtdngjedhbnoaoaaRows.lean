/-
  No cell of these rows narrows 'for every input' (looked for: loops, veiled, ifaces, maps, wideKeys, modest, calm, conditions, laid).
  DERIVED. THE GIVEN ROWS OF THIS SEAT. 10 by the template 'for every input the law returns true; each argument reads behind the call as it read before'; 0 by the template 'total and deterministic' (their statements: YtdngjedhbnoaoaaTotals.lean).
  GIVEN WITH THE SEED: the statements are not yours to turn. If you find one false, say at which input.
  Laid BY PROGRAM, IN A SANDBOX (cutbox-rows.mjs): the forced cells as the released guide's own fill.sh prints them over the translation 54ac8ec8ff0a7095… (all of the seat's roots in one cut). By AI agents, Wed Nov 11 2026. No macro, syntax, notation, axiom, sorry.
-/
import Derived.Test.YtdngjedhbnoaoaaChecked
import GoSem.Claim
import GoSem.ClaimJoined
import GoSem.ClaimMapViews
import Derived.JoinedTies
import Derived.KernelRfl
namespace Go.Proofs.Ytdngjedhbnoaoaa
/- THE CELL 'sum', in the pinned program and in every row, IS THE sha256 OF THE DUMP (.gsa) THAT YtdngjedhbnoaoaaProg.lean LOADS. Nothing in Lean hashes anything: it is a label: what it is worth is what the hold of that sum in a sandbox is worth. -/
noncomputable def Try.pinned : Pinned := { name := "ytdngjedhbnoaoaa", sum := "54ac8ec8ff0a709559a21981ec47f7f95192f46652fcaa813170366ebe540469", checked := Try.checked }
namespace Rows
def none {H : Type} : Left H := { results := [], args := [] }

/-- 'laws.FnGroupsLeast': WHATEVER THE INPUT: true; the input reads as it did. -/
def fnGroupsLeastSpec : ChangeSpec := { name := "fnGroupsLeast", fn := fun _ => fun
  | [d] => { results := [.lit (.bool true)], args := [d] }
  | _ => none }
def fnGroupsLeastRow : OpenClaim := { program := "ytdngjedhbnoaoaa", sum := "54ac8ec8ff0a709559a21981ec47f7f95192f46652fcaa813170366ebe540469", func := "loop.example/parquetry/laws.FnGroupsLeast", spec := "fnGroupsLeast", apart := false }
def FnGroupsLeastSaid : Prop := fnGroupsLeastRow.holds Try.pinned (OpenSpec.ofChange fnGroupsLeastSpec)

/-- ITS FALSE NEIGHBOUR: 'it returns false'. Refute it at one input. -/
def fnGroupsLeastWrong : ChangeSpec := { name := "fnGroupsLeast", fn := fun _ => fun
  | [d] => { results := [.lit (.bool false)], args := [d] }
  | _ => none }
def FnGroupsLeastWrongFalsely : Prop := fnGroupsLeastRow.holds Try.pinned (OpenSpec.ofChange fnGroupsLeastWrong)

/-- 'laws.FnGroupAwake': WHATEVER THE INPUT: true; the input reads as it did. -/
def fnGroupAwakeSpec : ChangeSpec := { name := "fnGroupAwake", fn := fun _ => fun
  | [d] => { results := [.lit (.bool true)], args := [d] }
  | _ => none }
def fnGroupAwakeRow : OpenClaim := { program := "ytdngjedhbnoaoaa", sum := "54ac8ec8ff0a709559a21981ec47f7f95192f46652fcaa813170366ebe540469", func := "loop.example/parquetry/laws.FnGroupAwake", spec := "fnGroupAwake", apart := false }
def FnGroupAwakeSaid : Prop := fnGroupAwakeRow.holds Try.pinned (OpenSpec.ofChange fnGroupAwakeSpec)

/-- ITS FALSE NEIGHBOUR: 'it returns false'. Refute it at one input. -/
def fnGroupAwakeWrong : ChangeSpec := { name := "fnGroupAwake", fn := fun _ => fun
  | [d] => { results := [.lit (.bool false)], args := [d] }
  | _ => none }
def FnGroupAwakeWrongFalsely : Prop := fnGroupAwakeRow.holds Try.pinned (OpenSpec.ofChange fnGroupAwakeWrong)

/-- 'laws.FnGroupOf': WHATEVER THE INPUT: true; the input reads as it did. -/
def fnGroupOfSpec : ChangeSpec := { name := "fnGroupOf", fn := fun _ => fun
  | [d] => { results := [.lit (.bool true)], args := [d] }
  | _ => none }
def fnGroupOfRow : OpenClaim := { program := "ytdngjedhbnoaoaa", sum := "54ac8ec8ff0a709559a21981ec47f7f95192f46652fcaa813170366ebe540469", func := "loop.example/parquetry/laws.FnGroupOf", spec := "fnGroupOf", apart := false }
def FnGroupOfSaid : Prop := fnGroupOfRow.holds Try.pinned (OpenSpec.ofChange fnGroupOfSpec)

/-- ITS FALSE NEIGHBOUR: 'it returns false'. Refute it at one input. -/
def fnGroupOfWrong : ChangeSpec := { name := "fnGroupOf", fn := fun _ => fun
  | [d] => { results := [.lit (.bool false)], args := [d] }
  | _ => none }
def FnGroupOfWrongFalsely : Prop := fnGroupOfRow.holds Try.pinned (OpenSpec.ofChange fnGroupOfWrong)

/-- 'laws.FnExactContacts': WHATEVER THE INPUT: true; the input reads as it did. -/
def fnExactContactsSpec : ChangeSpec := { name := "fnExactContacts", fn := fun _ => fun
  | [d] => { results := [.lit (.bool true)], args := [d] }
  | _ => none }
def fnExactContactsRow : OpenClaim := { program := "ytdngjedhbnoaoaa", sum := "54ac8ec8ff0a709559a21981ec47f7f95192f46652fcaa813170366ebe540469", func := "loop.example/parquetry/laws.FnExactContacts", spec := "fnExactContacts", apart := false }
def FnExactContactsSaid : Prop := fnExactContactsRow.holds Try.pinned (OpenSpec.ofChange fnExactContactsSpec)

/-- ITS FALSE NEIGHBOUR: 'it returns false'. Refute it at one input. -/
def fnExactContactsWrong : ChangeSpec := { name := "fnExactContacts", fn := fun _ => fun
  | [d] => { results := [.lit (.bool false)], args := [d] }
  | _ => none }
def FnExactContactsWrongFalsely : Prop := fnExactContactsRow.holds Try.pinned (OpenSpec.ofChange fnExactContactsWrong)

/-- 'laws.FnExactGroups': WHATEVER THE INPUT: true; the input reads as it did. -/
def fnExactGroupsSpec : ChangeSpec := { name := "fnExactGroups", fn := fun _ => fun
  | [d] => { results := [.lit (.bool true)], args := [d] }
  | _ => none }
def fnExactGroupsRow : OpenClaim := { program := "ytdngjedhbnoaoaa", sum := "54ac8ec8ff0a709559a21981ec47f7f95192f46652fcaa813170366ebe540469", func := "loop.example/parquetry/laws.FnExactGroups", spec := "fnExactGroups", apart := false }
def FnExactGroupsSaid : Prop := fnExactGroupsRow.holds Try.pinned (OpenSpec.ofChange fnExactGroupsSpec)

/-- ITS FALSE NEIGHBOUR: 'it returns false'. Refute it at one input. -/
def fnExactGroupsWrong : ChangeSpec := { name := "fnExactGroups", fn := fun _ => fun
  | [d] => { results := [.lit (.bool false)], args := [d] }
  | _ => none }
def FnExactGroupsWrongFalsely : Prop := fnExactGroupsRow.holds Try.pinned (OpenSpec.ofChange fnExactGroupsWrong)

/-- 'laws.FnExactGroupAwake': WHATEVER THE INPUT: true; the input reads as it did. -/
def fnExactGroupAwakeSpec : ChangeSpec := { name := "fnExactGroupAwake", fn := fun _ => fun
  | [d] => { results := [.lit (.bool true)], args := [d] }
  | _ => none }
def fnExactGroupAwakeRow : OpenClaim := { program := "ytdngjedhbnoaoaa", sum := "54ac8ec8ff0a709559a21981ec47f7f95192f46652fcaa813170366ebe540469", func := "loop.example/parquetry/laws.FnExactGroupAwake", spec := "fnExactGroupAwake", apart := false }
def FnExactGroupAwakeSaid : Prop := fnExactGroupAwakeRow.holds Try.pinned (OpenSpec.ofChange fnExactGroupAwakeSpec)

/-- ITS FALSE NEIGHBOUR: 'it returns false'. Refute it at one input. -/
def fnExactGroupAwakeWrong : ChangeSpec := { name := "fnExactGroupAwake", fn := fun _ => fun
  | [d] => { results := [.lit (.bool false)], args := [d] }
  | _ => none }
def FnExactGroupAwakeWrongFalsely : Prop := fnExactGroupAwakeRow.holds Try.pinned (OpenSpec.ofChange fnExactGroupAwakeWrong)

/-- 'laws.FnExactGroupOf': WHATEVER THE INPUT: true; the input reads as it did. -/
def fnExactGroupOfSpec : ChangeSpec := { name := "fnExactGroupOf", fn := fun _ => fun
  | [d1, d2] => { results := [.lit (.bool true)], args := [d1, d2] }
  | _ => none }
def fnExactGroupOfRow : OpenClaim := { program := "ytdngjedhbnoaoaa", sum := "54ac8ec8ff0a709559a21981ec47f7f95192f46652fcaa813170366ebe540469", func := "loop.example/parquetry/laws.FnExactGroupOf", spec := "fnExactGroupOf", apart := false }
def FnExactGroupOfSaid : Prop := fnExactGroupOfRow.holds Try.pinned (OpenSpec.ofChange fnExactGroupOfSpec)

/-- ITS FALSE NEIGHBOUR: 'it returns false'. Refute it at one input. -/
def fnExactGroupOfWrong : ChangeSpec := { name := "fnExactGroupOf", fn := fun _ => fun
  | [d1, d2] => { results := [.lit (.bool false)], args := [d1, d2] }
  | _ => none }
def FnExactGroupOfWrongFalsely : Prop := fnExactGroupOfRow.holds Try.pinned (OpenSpec.ofChange fnExactGroupOfWrong)

/-- 'laws.FnDrives': WHATEVER THE INPUT: true; the input reads as it did. -/
def fnDrivesSpec : ChangeSpec := { name := "fnDrives", fn := fun _ => fun
  | [d] => { results := [.lit (.bool true)], args := [d] }
  | _ => none }
def fnDrivesRow : OpenClaim := { program := "ytdngjedhbnoaoaa", sum := "54ac8ec8ff0a709559a21981ec47f7f95192f46652fcaa813170366ebe540469", func := "loop.example/parquetry/laws.FnDrives", spec := "fnDrives", apart := false }
def FnDrivesSaid : Prop := fnDrivesRow.holds Try.pinned (OpenSpec.ofChange fnDrivesSpec)

/-- ITS FALSE NEIGHBOUR: 'it returns false'. Refute it at one input. -/
def fnDrivesWrong : ChangeSpec := { name := "fnDrives", fn := fun _ => fun
  | [d] => { results := [.lit (.bool false)], args := [d] }
  | _ => none }
def FnDrivesWrongFalsely : Prop := fnDrivesRow.holds Try.pinned (OpenSpec.ofChange fnDrivesWrong)

/-- 'laws.FnContacts': WHATEVER THE INPUT: true; the input reads as it did. -/
def fnContactsSpec : ChangeSpec := { name := "fnContacts", fn := fun _ => fun
  | [d] => { results := [.lit (.bool true)], args := [d] }
  | _ => none }
def fnContactsRow : OpenClaim := { program := "ytdngjedhbnoaoaa", sum := "54ac8ec8ff0a709559a21981ec47f7f95192f46652fcaa813170366ebe540469", func := "loop.example/parquetry/laws.FnContacts", spec := "fnContacts", apart := false }
def FnContactsSaid : Prop := fnContactsRow.holds Try.pinned (OpenSpec.ofChange fnContactsSpec)

/-- ITS FALSE NEIGHBOUR: 'it returns false'. Refute it at one input. -/
def fnContactsWrong : ChangeSpec := { name := "fnContacts", fn := fun _ => fun
  | [d] => { results := [.lit (.bool false)], args := [d] }
  | _ => none }
def FnContactsWrongFalsely : Prop := fnContactsRow.holds Try.pinned (OpenSpec.ofChange fnContactsWrong)

/-- 'laws.FnGroups': WHATEVER THE INPUT: true; the input reads as it did. -/
def fnGroupsSpec : ChangeSpec := { name := "fnGroups", fn := fun _ => fun
  | [d] => { results := [.lit (.bool true)], args := [d] }
  | _ => none }
def fnGroupsRow : OpenClaim := { program := "ytdngjedhbnoaoaa", sum := "54ac8ec8ff0a709559a21981ec47f7f95192f46652fcaa813170366ebe540469", func := "loop.example/parquetry/laws.FnGroups", spec := "fnGroups", apart := false }
def FnGroupsSaid : Prop := fnGroupsRow.holds Try.pinned (OpenSpec.ofChange fnGroupsSpec)

/-- ITS FALSE NEIGHBOUR: 'it returns false'. Refute it at one input. -/
def fnGroupsWrong : ChangeSpec := { name := "fnGroups", fn := fun _ => fun
  | [d] => { results := [.lit (.bool false)], args := [d] }
  | _ => none }
def FnGroupsWrongFalsely : Prop := fnGroupsRow.holds Try.pinned (OpenSpec.ofChange fnGroupsWrong)

/- THE SECOND FORM. 'bulk': how many values and letters a reading holds, each counted each time it is reached (what is shared counts as often as it is met; a slice's spare places count too). A statement '..UptoSaid' is the law's where the arguments, and the package variables that the reading takes, are together of bulk at most 1048576: NARROWER than '..Said'. Prove '..Said' where nothing that the law and all that it calls make is longer than what came in: it says more and counts as full. Else prove '..UptoSaid'. A law counts once. -/
mutual
def uptoBulk {H : Type} : DataW H → Nat
  | .lit (.string bytes) => bytes.length + 1
  | .lit _ => 1
  | .nil => 1
  | .ptr d => uptoBulk d + 1
  | .slice elems spare => uptoBulkAll elems + uptoBulkAll spare + 1
  | .agg parts => uptoBulkAll parts + 1
  | .iface _ d => uptoBulk d + 1
  | .map entries => uptoBulkEntries entries + 1
  | .held _ => 1
def uptoBulkAll {H : Type} : List (DataW H) → Nat
  | [] => 0
  | d :: r => uptoBulk d + uptoBulkAll r
def uptoBulkEntries {H : Type} : List (Lit × DataW H) → Nat
  | [] => 0
  | x :: r => uptoBulkEntry x + uptoBulkEntries r
def uptoBulkEntry {H : Type} : Lit × DataW H → Nat
  | (.string bytes, d) => bytes.length + uptoBulk d + 1
  | (_, d) => uptoBulk d + 1
 end
def uptoSmall : (H : Type) → List (DataW H) → Bool := fun _ ds => decide (uptoBulkAll ds ≤ 1048576)
def OpenSpec.upto (s : _root_.Go.ChangeSpec) : _root_.Go.OpenSpec := { _root_.Go.OpenSpec.ofChange s with cond := some uptoSmall }

/-- 'laws.FnGroupsLeast', WHERE WHAT IT READS IS OF BULK AT MOST 1048576: true; the input reads as it did. -/
def fnGroupsLeastUptoRow : OpenClaim := { program := "ytdngjedhbnoaoaa", sum := "54ac8ec8ff0a709559a21981ec47f7f95192f46652fcaa813170366ebe540469", func := "loop.example/parquetry/laws.FnGroupsLeast", spec := "fnGroupsLeast", apart := false, narrowed := true }
def FnGroupsLeastUptoSaid : Prop := fnGroupsLeastUptoRow.holds Try.pinned (OpenSpec.upto fnGroupsLeastSpec)

/-- 'laws.FnGroupAwake', WHERE WHAT IT READS IS OF BULK AT MOST 1048576: true; the input reads as it did. -/
def fnGroupAwakeUptoRow : OpenClaim := { program := "ytdngjedhbnoaoaa", sum := "54ac8ec8ff0a709559a21981ec47f7f95192f46652fcaa813170366ebe540469", func := "loop.example/parquetry/laws.FnGroupAwake", spec := "fnGroupAwake", apart := false, narrowed := true }
def FnGroupAwakeUptoSaid : Prop := fnGroupAwakeUptoRow.holds Try.pinned (OpenSpec.upto fnGroupAwakeSpec)

/-- 'laws.FnGroupOf', WHERE WHAT IT READS IS OF BULK AT MOST 1048576: true; the input reads as it did. -/
def fnGroupOfUptoRow : OpenClaim := { program := "ytdngjedhbnoaoaa", sum := "54ac8ec8ff0a709559a21981ec47f7f95192f46652fcaa813170366ebe540469", func := "loop.example/parquetry/laws.FnGroupOf", spec := "fnGroupOf", apart := false, narrowed := true }
def FnGroupOfUptoSaid : Prop := fnGroupOfUptoRow.holds Try.pinned (OpenSpec.upto fnGroupOfSpec)

/-- 'laws.FnExactContacts', WHERE WHAT IT READS IS OF BULK AT MOST 1048576: true; the input reads as it did. -/
def fnExactContactsUptoRow : OpenClaim := { program := "ytdngjedhbnoaoaa", sum := "54ac8ec8ff0a709559a21981ec47f7f95192f46652fcaa813170366ebe540469", func := "loop.example/parquetry/laws.FnExactContacts", spec := "fnExactContacts", apart := false, narrowed := true }
def FnExactContactsUptoSaid : Prop := fnExactContactsUptoRow.holds Try.pinned (OpenSpec.upto fnExactContactsSpec)

/-- 'laws.FnExactGroups', WHERE WHAT IT READS IS OF BULK AT MOST 1048576: true; the input reads as it did. -/
def fnExactGroupsUptoRow : OpenClaim := { program := "ytdngjedhbnoaoaa", sum := "54ac8ec8ff0a709559a21981ec47f7f95192f46652fcaa813170366ebe540469", func := "loop.example/parquetry/laws.FnExactGroups", spec := "fnExactGroups", apart := false, narrowed := true }
def FnExactGroupsUptoSaid : Prop := fnExactGroupsUptoRow.holds Try.pinned (OpenSpec.upto fnExactGroupsSpec)

/-- 'laws.FnExactGroupAwake', WHERE WHAT IT READS IS OF BULK AT MOST 1048576: true; the input reads as it did. -/
def fnExactGroupAwakeUptoRow : OpenClaim := { program := "ytdngjedhbnoaoaa", sum := "54ac8ec8ff0a709559a21981ec47f7f95192f46652fcaa813170366ebe540469", func := "loop.example/parquetry/laws.FnExactGroupAwake", spec := "fnExactGroupAwake", apart := false, narrowed := true }
def FnExactGroupAwakeUptoSaid : Prop := fnExactGroupAwakeUptoRow.holds Try.pinned (OpenSpec.upto fnExactGroupAwakeSpec)

/-- 'laws.FnExactGroupOf', WHERE WHAT IT READS IS OF BULK AT MOST 1048576: true; the input reads as it did. -/
def fnExactGroupOfUptoRow : OpenClaim := { program := "ytdngjedhbnoaoaa", sum := "54ac8ec8ff0a709559a21981ec47f7f95192f46652fcaa813170366ebe540469", func := "loop.example/parquetry/laws.FnExactGroupOf", spec := "fnExactGroupOf", apart := false, narrowed := true }
def FnExactGroupOfUptoSaid : Prop := fnExactGroupOfUptoRow.holds Try.pinned (OpenSpec.upto fnExactGroupOfSpec)

/-- 'laws.FnDrives', WHERE WHAT IT READS IS OF BULK AT MOST 1048576: true; the input reads as it did. -/
def fnDrivesUptoRow : OpenClaim := { program := "ytdngjedhbnoaoaa", sum := "54ac8ec8ff0a709559a21981ec47f7f95192f46652fcaa813170366ebe540469", func := "loop.example/parquetry/laws.FnDrives", spec := "fnDrives", apart := false, narrowed := true }
def FnDrivesUptoSaid : Prop := fnDrivesUptoRow.holds Try.pinned (OpenSpec.upto fnDrivesSpec)

/-- 'laws.FnContacts', WHERE WHAT IT READS IS OF BULK AT MOST 1048576: true; the input reads as it did. -/
def fnContactsUptoRow : OpenClaim := { program := "ytdngjedhbnoaoaa", sum := "54ac8ec8ff0a709559a21981ec47f7f95192f46652fcaa813170366ebe540469", func := "loop.example/parquetry/laws.FnContacts", spec := "fnContacts", apart := false, narrowed := true }
def FnContactsUptoSaid : Prop := fnContactsUptoRow.holds Try.pinned (OpenSpec.upto fnContactsSpec)

/-- 'laws.FnGroups', WHERE WHAT IT READS IS OF BULK AT MOST 1048576: true; the input reads as it did. -/
def fnGroupsUptoRow : OpenClaim := { program := "ytdngjedhbnoaoaa", sum := "54ac8ec8ff0a709559a21981ec47f7f95192f46652fcaa813170366ebe540469", func := "loop.example/parquetry/laws.FnGroups", spec := "fnGroups", apart := false, narrowed := true }
def FnGroupsUptoSaid : Prop := fnGroupsUptoRow.holds Try.pinned (OpenSpec.upto fnGroupsSpec)

end Rows
end Go.Proofs.Ytdngjedhbnoaoaa
