/-
  DERIVED. GIVEN WITH THE SEED: THE CARDS: each row of YtljeodbenlfgfaaGreatDoorRows.lean that lists a variable, with what it lists TIED to the program's text (the seventh form; the later family's looks); each row that meets fmt, with fmt's text TOLD by the authors' own Lean function (tested against real Go, not proved from fmt's source: count such statements apart). THE CARD IS WHAT COUNTS. Prove the row's statement (the work); the ties are given (YtljeodbenlfgfaaGreatDoorTie.lean); close each card by the builder's one call (the guide's Derived/Test/ToyasCard.lean, 'card_holds'). Laid BY PROGRAM, IN A SANDBOX (cutbox-door.mjs). By AI agents, Wed Nov 11 2026. No macro, syntax, notation, axiom, sorry.
-/
import Derived.Test.YtljeodbenlfgfaaGreatDoorRows
import GoSem.ClaimSeven
namespace Go.Proofs.YtljeodbenlfgfaaGreatDoor
namespace Rows

/-- THE TIED CARD OF 'laws.FnWorldSave'. -/
def fnWorldSaveCard : Claim7 := { stood := { row := fnWorldSaveRow, standIns := [], harness := (true, "383bcaf4cc2b6e2bca79db1fb06d721e2d55bbf602117e7645e23e3418ed9af6"), looks := true }, kinds := [], alts := [], goes := true, laidByText := true, laidKinds := [.data, .handle, .sentinel, .sentinel, .pinned], laidTests := true, laidLooks := .later }
def FnWorldSaveCardSaid : Prop := Claim7.holds Tryz.pinned (.plain (OpenSpec.ofChange fnWorldSaveSpec)) fnWorldSaveCard

/-- THE SECOND FORM's CARD OF 'laws.FnWorldSave'. -/
def fnWorldSaveUptoCard : Claim7 := { stood := { row := fnWorldSaveUptoRow, standIns := [], harness := (true, "383bcaf4cc2b6e2bca79db1fb06d721e2d55bbf602117e7645e23e3418ed9af6"), looks := true }, kinds := [], alts := [], goes := true, laidByText := true, laidKinds := [.data, .handle, .sentinel, .sentinel, .pinned], laidTests := true, laidLooks := .later }
def FnWorldSaveUptoCardSaid : Prop := Claim7.holds Tryz.pinned (.plain (OpenSpec.upto fnWorldSaveSpec)) fnWorldSaveUptoCard
end Rows
end Go.Proofs.YtljeodbenlfgfaaGreatDoor
