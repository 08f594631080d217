/-
  DERIVED. GIVEN WITH THE SEED: THE CARDS: each row of YtmhapedlihpjoaaGreatDoorRows.lean that lists a variable, with what it lists TIED to the program's text (the seventh form; the later family's looks); each row that meets fmt, with fmt's text TOLD by the authors' own Lean function (tested against real Go, not proved from fmt's source: count such statements apart). THE CARD IS WHAT COUNTS. Prove the row's statement (the work); the ties are given (YtmhapedlihpjoaaGreatDoorTie.lean); close each card by the builder's one call (the guide's Derived/Test/ToyasCard.lean, 'card_holds'). Laid BY PROGRAM, IN A SANDBOX (cutbox-door.mjs). By AI agents, Wed Nov 11 2026. No macro, syntax, notation, axiom, sorry.
-/
import Derived.Test.YtmhapedlihpjoaaGreatDoorRows
import GoSem.ClaimSeven
namespace Go.Proofs.YtmhapedlihpjoaaGreatDoor
namespace Rows

/-- THE TIED CARD OF 'laws.FnWorldDo'. -/
def fnWorldDoCard : Claim7 := { stood := { row := fnWorldDoRow, standIns := [], harness := (true, "206e346ab689e85010a4da1202623fa04022cce7c172e23507117f06b466d8dd"), looks := true }, kinds := [], alts := [], goes := true, laidByText := true, laidKinds := [.data, .handle, .sentinel, .sentinel, .pinned], laidTests := true, laidLooks := .later }
def FnWorldDoCardSaid : Prop := Claim7.holds Tryz.pinned (.plain (OpenSpec.ofChange fnWorldDoSpec)) fnWorldDoCard

/-- THE SECOND FORM's CARD OF 'laws.FnWorldDo'. -/
def fnWorldDoUptoCard : Claim7 := { stood := { row := fnWorldDoUptoRow, standIns := [], harness := (true, "206e346ab689e85010a4da1202623fa04022cce7c172e23507117f06b466d8dd"), looks := true }, kinds := [], alts := [], goes := true, laidByText := true, laidKinds := [.data, .handle, .sentinel, .sentinel, .pinned], laidTests := true, laidLooks := .later }
def FnWorldDoUptoCardSaid : Prop := Claim7.holds Tryz.pinned (.plain (OpenSpec.upto fnWorldDoSpec)) fnWorldDoUptoCard
end Rows
end Go.Proofs.YtmhapedlihpjoaaGreatDoor
