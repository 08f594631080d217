/-
  DERIVED. GIVEN WITH THE SEED: THE CARDS: each row of YtkpmoikakakhkaaGreatDoorRows.lean that lists a variable, with what it lists TIED to the program's text (the seventh form; the later family's looks); each row that meets fmt, with fmt's text TOLD by the authors' own Lean function (tested against real Go, not proved from fmt's source: count such statements apart). THE CARD IS WHAT COUNTS. Prove the row's statement (the work); the ties are given (YtkpmoikakakhkaaGreatDoorTie.lean); close each card by the builder's one call (the guide's Derived/Test/ToyasCard.lean, 'card_holds'). Laid BY PROGRAM, IN A SANDBOX (cutbox-door.mjs). By AI agents, Wed Nov 11 2026. No macro, syntax, notation, axiom, sorry.
-/
import Derived.Test.YtkpmoikakakhkaaGreatDoorRows
import GoSem.ClaimSeven
namespace Go.Proofs.YtkpmoikakakhkaaGreatDoor
namespace Rows

/-- THE TIED CARD OF 'laws.FnWorldTwo'. -/
def fnWorldTwoCard : Claim7 := { stood := { row := fnWorldTwoRow, standIns := [], harness := (true, "a53ffae4b3b58333210fd28aeb6908d0b5748b8ca557b55047314aa2c5c85687"), looks := true }, kinds := [], alts := [], goes := true, laidByText := true, laidKinds := [.data, .handle, .sentinel, .sentinel, .pinned], laidTests := true, laidLooks := .later }
def FnWorldTwoCardSaid : Prop := Claim7.holds Tryz.pinned (.plain (OpenSpec.ofChange fnWorldTwoSpec)) fnWorldTwoCard

/-- THE SECOND FORM's CARD OF 'laws.FnWorldTwo'. -/
def fnWorldTwoUptoCard : Claim7 := { stood := { row := fnWorldTwoUptoRow, standIns := [], harness := (true, "a53ffae4b3b58333210fd28aeb6908d0b5748b8ca557b55047314aa2c5c85687"), looks := true }, kinds := [], alts := [], goes := true, laidByText := true, laidKinds := [.data, .handle, .sentinel, .sentinel, .pinned], laidTests := true, laidLooks := .later }
def FnWorldTwoUptoCardSaid : Prop := Claim7.holds Tryz.pinned (.plain (OpenSpec.upto fnWorldTwoSpec)) fnWorldTwoUptoCard
end Rows
end Go.Proofs.YtkpmoikakakhkaaGreatDoor
