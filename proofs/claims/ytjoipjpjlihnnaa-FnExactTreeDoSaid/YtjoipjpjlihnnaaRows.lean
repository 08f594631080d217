/-
  No cell of these rows narrows 'for every input' (looked for: loops, veiled, ifaces, maps, wideKeys, modest, calm, conditions, laid).
  DERIVED. THE GIVEN ROWS OF THIS SEAT. 6 by the template 'for every input the law returns true; each argument reads behind the call as it read before'; 0 by the template 'total and deterministic' (their statements: YtjoipjpjlihnnaaTotals.lean).
  GIVEN WITH THE SEED: the statements are not yours to turn. If you find one false, say at which input.
  Laid BY PROGRAM, IN A SANDBOX (cutbox-rows.mjs): the forced cells as the released guide's own fill.sh prints them over the translation b68c6a938a437c8f… (all of the seat's roots in one cut). By AI agents, Wed Nov 11 2026. No macro, syntax, notation, axiom, sorry.
-/
import Derived.Test.YtjoipjpjlihnnaaChecked
import GoSem.Claim
import GoSem.ClaimJoined
import GoSem.ClaimMapViews
import Derived.JoinedTies
import Derived.KernelRfl
namespace Go.Proofs.Ytjoipjpjlihnnaa
/- THE CELL 'sum', in the pinned program and in every row, IS THE sha256 OF THE DUMP (.gsa) THAT YtjoipjpjlihnnaaProg.lean LOADS. Nothing in Lean hashes anything: it is a label: what it is worth is what the hold of that sum in a sandbox is worth. -/
noncomputable def Try.pinned : Pinned := { name := "ytjoipjpjlihnnaa", sum := "b68c6a938a437c8f98f01ef7c2ab8ac6a0c4aafd6fbee8b344f3031dbe87c6e4", checked := Try.checked }
namespace Rows
def none {H : Type} : Left H := { results := [], args := [] }

/-- 'laws.FnChangeNot': WHATEVER THE INPUT: true; the input reads as it did. -/
def fnChangeNotSpec : ChangeSpec := { name := "fnChangeNot", fn := fun _ => fun
  | [d] => { results := [.lit (.bool true)], args := [d] }
  | _ => none }
def fnChangeNotRow : OpenClaim := { program := "ytjoipjpjlihnnaa", sum := "b68c6a938a437c8f98f01ef7c2ab8ac6a0c4aafd6fbee8b344f3031dbe87c6e4", func := "loop.example/depositary/laws.FnChangeNot", spec := "fnChangeNot", inPlace := ["internal/bytealg.IndexByteString", "internal/bytealg.IndexString"], unfollowed := true, recurses := true, named := ["internal/bytealg.MaxLen"], apart := false }
def FnChangeNotSaid : Prop := fnChangeNotRow.holds Try.pinned (OpenSpec.ofChange fnChangeNotSpec)

/-- ITS FALSE NEIGHBOUR: 'it returns false'. Refute it at one input. -/
def fnChangeNotWrong : ChangeSpec := { name := "fnChangeNot", fn := fun _ => fun
  | [d] => { results := [.lit (.bool false)], args := [d] }
  | _ => none }
def FnChangeNotWrongFalsely : Prop := fnChangeNotRow.holds Try.pinned (OpenSpec.ofChange fnChangeNotWrong)

/-- 'laws.FnDiffBack': WHATEVER THE INPUT: true; the input reads as it did. -/
def fnDiffBackSpec : ChangeSpec := { name := "fnDiffBack", fn := fun _ => fun
  | [d] => { results := [.lit (.bool true)], args := [d] }
  | _ => none }
def fnDiffBackRow : OpenClaim := { program := "ytjoipjpjlihnnaa", sum := "b68c6a938a437c8f98f01ef7c2ab8ac6a0c4aafd6fbee8b344f3031dbe87c6e4", func := "loop.example/depositary/laws.FnDiffBack", spec := "fnDiffBack", inPlace := ["internal/bytealg.IndexByteString", "internal/bytealg.IndexString"], unfollowed := true, recurses := true, named := ["internal/bytealg.MaxLen"], apart := false }
def FnDiffBackSaid : Prop := fnDiffBackRow.holds Try.pinned (OpenSpec.ofChange fnDiffBackSpec)

/-- ITS FALSE NEIGHBOUR: 'it returns false'. Refute it at one input. -/
def fnDiffBackWrong : ChangeSpec := { name := "fnDiffBack", fn := fun _ => fun
  | [d] => { results := [.lit (.bool false)], args := [d] }
  | _ => none }
def FnDiffBackWrongFalsely : Prop := fnDiffBackRow.holds Try.pinned (OpenSpec.ofChange fnDiffBackWrong)

/-- 'laws.FnDiffDo': WHATEVER THE INPUT: true; the input reads as it did. -/
def fnDiffDoSpec : ChangeSpec := { name := "fnDiffDo", fn := fun _ => fun
  | [d] => { results := [.lit (.bool true)], args := [d] }
  | _ => none }
def fnDiffDoRow : OpenClaim := { program := "ytjoipjpjlihnnaa", sum := "b68c6a938a437c8f98f01ef7c2ab8ac6a0c4aafd6fbee8b344f3031dbe87c6e4", func := "loop.example/depositary/laws.FnDiffDo", spec := "fnDiffDo", inPlace := ["internal/bytealg.IndexByteString", "internal/bytealg.IndexString"], unfollowed := true, recurses := true, named := ["internal/bytealg.MaxLen"], apart := false }
def FnDiffDoSaid : Prop := fnDiffDoRow.holds Try.pinned (OpenSpec.ofChange fnDiffDoSpec)

/-- ITS FALSE NEIGHBOUR: 'it returns false'. Refute it at one input. -/
def fnDiffDoWrong : ChangeSpec := { name := "fnDiffDo", fn := fun _ => fun
  | [d] => { results := [.lit (.bool false)], args := [d] }
  | _ => none }
def FnDiffDoWrongFalsely : Prop := fnDiffDoRow.holds Try.pinned (OpenSpec.ofChange fnDiffDoWrong)

/-- 'laws.FnTreeDo': WHATEVER THE INPUT: true; the input reads as it did. -/
def fnTreeDoSpec : ChangeSpec := { name := "fnTreeDo", fn := fun _ => fun
  | [d1, d2] => { results := [.lit (.bool true)], args := [d1, d2] }
  | _ => none }
def fnTreeDoRow : OpenClaim := { program := "ytjoipjpjlihnnaa", sum := "b68c6a938a437c8f98f01ef7c2ab8ac6a0c4aafd6fbee8b344f3031dbe87c6e4", func := "loop.example/depositary/laws.FnTreeDo", spec := "fnTreeDo", inPlace := ["internal/bytealg.IndexByteString", "internal/bytealg.IndexString"], unfollowed := true, recurses := true, named := ["internal/bytealg.MaxLen"], apart := false }
def FnTreeDoSaid : Prop := fnTreeDoRow.holds Try.pinned (OpenSpec.ofChange fnTreeDoSpec)

/-- ITS FALSE NEIGHBOUR: 'it returns false'. Refute it at one input. -/
def fnTreeDoWrong : ChangeSpec := { name := "fnTreeDo", fn := fun _ => fun
  | [d1, d2] => { results := [.lit (.bool false)], args := [d1, d2] }
  | _ => none }
def FnTreeDoWrongFalsely : Prop := fnTreeDoRow.holds Try.pinned (OpenSpec.ofChange fnTreeDoWrong)

/-- 'laws.FnDiffThree': WHATEVER THE INPUT: true; the input reads as it did. -/
def fnDiffThreeSpec : ChangeSpec := { name := "fnDiffThree", fn := fun _ => fun
  | [d1, d2] => { results := [.lit (.bool true)], args := [d1, d2] }
  | _ => none }
def fnDiffThreeRow : OpenClaim := { program := "ytjoipjpjlihnnaa", sum := "b68c6a938a437c8f98f01ef7c2ab8ac6a0c4aafd6fbee8b344f3031dbe87c6e4", func := "loop.example/depositary/laws.FnDiffThree", spec := "fnDiffThree", inPlace := ["internal/bytealg.IndexByteString", "internal/bytealg.IndexString"], unfollowed := true, recurses := true, named := ["internal/bytealg.MaxLen"], apart := false }
def FnDiffThreeSaid : Prop := fnDiffThreeRow.holds Try.pinned (OpenSpec.ofChange fnDiffThreeSpec)

/-- ITS FALSE NEIGHBOUR: 'it returns false'. Refute it at one input. -/
def fnDiffThreeWrong : ChangeSpec := { name := "fnDiffThree", fn := fun _ => fun
  | [d1, d2] => { results := [.lit (.bool false)], args := [d1, d2] }
  | _ => none }
def FnDiffThreeWrongFalsely : Prop := fnDiffThreeRow.holds Try.pinned (OpenSpec.ofChange fnDiffThreeWrong)

/-- 'laws.FnExactTreeDo': WHATEVER THE INPUT: true; the input reads as it did. -/
def fnExactTreeDoSpec : ChangeSpec := { name := "fnExactTreeDo", fn := fun _ => fun
  | [d1, d2] => { results := [.lit (.bool true)], args := [d1, d2] }
  | _ => none }
def fnExactTreeDoRow : OpenClaim := { program := "ytjoipjpjlihnnaa", sum := "b68c6a938a437c8f98f01ef7c2ab8ac6a0c4aafd6fbee8b344f3031dbe87c6e4", func := "loop.example/depositary/laws.FnExactTreeDo", spec := "fnExactTreeDo", inPlace := ["internal/bytealg.IndexByteString", "internal/bytealg.IndexString"], unfollowed := true, recurses := true, named := ["internal/bytealg.MaxLen"], apart := false }
def FnExactTreeDoSaid : Prop := fnExactTreeDoRow.holds Try.pinned (OpenSpec.ofChange fnExactTreeDoSpec)

/-- ITS FALSE NEIGHBOUR: 'it returns false'. Refute it at one input. -/
def fnExactTreeDoWrong : ChangeSpec := { name := "fnExactTreeDo", fn := fun _ => fun
  | [d1, d2] => { results := [.lit (.bool false)], args := [d1, d2] }
  | _ => none }
def FnExactTreeDoWrongFalsely : Prop := fnExactTreeDoRow.holds Try.pinned (OpenSpec.ofChange fnExactTreeDoWrong)

/- THE SECOND FORM. 'bulk': how many values and letters a reading holds, each counted each time it is reached (what is shared counts as often as it is met; a slice's spare places count too). A statement '..UptoSaid' is the law's where the arguments, and the package variables that the reading takes, are together of bulk at most 1048576: NARROWER than '..Said'. Prove '..Said' where nothing that the law and all that it calls make is longer than what came in: it says more and counts as full. Else prove '..UptoSaid'. A law counts once. -/
mutual
def uptoBulk {H : Type} : DataW H → Nat
  | .lit (.string bytes) => bytes.length + 1
  | .lit _ => 1
  | .nil => 1
  | .ptr d => uptoBulk d + 1
  | .slice elems spare => uptoBulkAll elems + uptoBulkAll spare + 1
  | .agg parts => uptoBulkAll parts + 1
  | .iface _ d => uptoBulk d + 1
  | .map entries => uptoBulkEntries entries + 1
  | .held _ => 1
def uptoBulkAll {H : Type} : List (DataW H) → Nat
  | [] => 0
  | d :: r => uptoBulk d + uptoBulkAll r
def uptoBulkEntries {H : Type} : List (Lit × DataW H) → Nat
  | [] => 0
  | x :: r => uptoBulkEntry x + uptoBulkEntries r
def uptoBulkEntry {H : Type} : Lit × DataW H → Nat
  | (.string bytes, d) => bytes.length + uptoBulk d + 1
  | (_, d) => uptoBulk d + 1
 end
def uptoSmall : (H : Type) → List (DataW H) → Bool := fun _ ds => decide (uptoBulkAll ds ≤ 1048576)
def OpenSpec.upto (s : _root_.Go.ChangeSpec) : _root_.Go.OpenSpec := { _root_.Go.OpenSpec.ofChange s with cond := some uptoSmall }

/-- 'laws.FnChangeNot', WHERE WHAT IT READS IS OF BULK AT MOST 1048576: true; the input reads as it did. -/
def fnChangeNotUptoRow : OpenClaim := { program := "ytjoipjpjlihnnaa", sum := "b68c6a938a437c8f98f01ef7c2ab8ac6a0c4aafd6fbee8b344f3031dbe87c6e4", func := "loop.example/depositary/laws.FnChangeNot", spec := "fnChangeNot", inPlace := ["internal/bytealg.IndexByteString", "internal/bytealg.IndexString"], unfollowed := true, recurses := true, named := ["internal/bytealg.MaxLen"], apart := false, narrowed := true }
def FnChangeNotUptoSaid : Prop := fnChangeNotUptoRow.holds Try.pinned (OpenSpec.upto fnChangeNotSpec)

/-- 'laws.FnDiffBack', WHERE WHAT IT READS IS OF BULK AT MOST 1048576: true; the input reads as it did. -/
def fnDiffBackUptoRow : OpenClaim := { program := "ytjoipjpjlihnnaa", sum := "b68c6a938a437c8f98f01ef7c2ab8ac6a0c4aafd6fbee8b344f3031dbe87c6e4", func := "loop.example/depositary/laws.FnDiffBack", spec := "fnDiffBack", inPlace := ["internal/bytealg.IndexByteString", "internal/bytealg.IndexString"], unfollowed := true, recurses := true, named := ["internal/bytealg.MaxLen"], apart := false, narrowed := true }
def FnDiffBackUptoSaid : Prop := fnDiffBackUptoRow.holds Try.pinned (OpenSpec.upto fnDiffBackSpec)

/-- 'laws.FnDiffDo', WHERE WHAT IT READS IS OF BULK AT MOST 1048576: true; the input reads as it did. -/
def fnDiffDoUptoRow : OpenClaim := { program := "ytjoipjpjlihnnaa", sum := "b68c6a938a437c8f98f01ef7c2ab8ac6a0c4aafd6fbee8b344f3031dbe87c6e4", func := "loop.example/depositary/laws.FnDiffDo", spec := "fnDiffDo", inPlace := ["internal/bytealg.IndexByteString", "internal/bytealg.IndexString"], unfollowed := true, recurses := true, named := ["internal/bytealg.MaxLen"], apart := false, narrowed := true }
def FnDiffDoUptoSaid : Prop := fnDiffDoUptoRow.holds Try.pinned (OpenSpec.upto fnDiffDoSpec)

/-- 'laws.FnTreeDo', WHERE WHAT IT READS IS OF BULK AT MOST 1048576: true; the input reads as it did. -/
def fnTreeDoUptoRow : OpenClaim := { program := "ytjoipjpjlihnnaa", sum := "b68c6a938a437c8f98f01ef7c2ab8ac6a0c4aafd6fbee8b344f3031dbe87c6e4", func := "loop.example/depositary/laws.FnTreeDo", spec := "fnTreeDo", inPlace := ["internal/bytealg.IndexByteString", "internal/bytealg.IndexString"], unfollowed := true, recurses := true, named := ["internal/bytealg.MaxLen"], apart := false, narrowed := true }
def FnTreeDoUptoSaid : Prop := fnTreeDoUptoRow.holds Try.pinned (OpenSpec.upto fnTreeDoSpec)

/-- 'laws.FnDiffThree', WHERE WHAT IT READS IS OF BULK AT MOST 1048576: true; the input reads as it did. -/
def fnDiffThreeUptoRow : OpenClaim := { program := "ytjoipjpjlihnnaa", sum := "b68c6a938a437c8f98f01ef7c2ab8ac6a0c4aafd6fbee8b344f3031dbe87c6e4", func := "loop.example/depositary/laws.FnDiffThree", spec := "fnDiffThree", inPlace := ["internal/bytealg.IndexByteString", "internal/bytealg.IndexString"], unfollowed := true, recurses := true, named := ["internal/bytealg.MaxLen"], apart := false, narrowed := true }
def FnDiffThreeUptoSaid : Prop := fnDiffThreeUptoRow.holds Try.pinned (OpenSpec.upto fnDiffThreeSpec)

/-- 'laws.FnExactTreeDo', WHERE WHAT IT READS IS OF BULK AT MOST 1048576: true; the input reads as it did. -/
def fnExactTreeDoUptoRow : OpenClaim := { program := "ytjoipjpjlihnnaa", sum := "b68c6a938a437c8f98f01ef7c2ab8ac6a0c4aafd6fbee8b344f3031dbe87c6e4", func := "loop.example/depositary/laws.FnExactTreeDo", spec := "fnExactTreeDo", inPlace := ["internal/bytealg.IndexByteString", "internal/bytealg.IndexString"], unfollowed := true, recurses := true, named := ["internal/bytealg.MaxLen"], apart := false, narrowed := true }
def FnExactTreeDoUptoSaid : Prop := fnExactTreeDoUptoRow.holds Try.pinned (OpenSpec.upto fnExactTreeDoSpec)

end Rows
end Go.Proofs.Ytjoipjpjlihnnaa
