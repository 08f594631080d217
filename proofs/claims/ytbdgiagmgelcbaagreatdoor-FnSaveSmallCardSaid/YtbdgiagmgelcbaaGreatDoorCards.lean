/-
  DERIVED. GIVEN WITH THE SEED: THE CARDS: each row of YtbdgiagmgelcbaaGreatDoorRows.lean that lists a variable, with what it lists TIED to the program's text (the seventh form; the later family's looks); each row that meets fmt, with fmt's text TOLD by the authors' own Lean function (tested against real Go, not proved from fmt's source: count such statements apart). THE CARD IS WHAT COUNTS. Prove the row's statement (the work); the ties are given (YtbdgiagmgelcbaaGreatDoorTie.lean); close each card by the builder's one call (the guide's Derived/Test/ToyasCard.lean, 'card_holds'). Laid BY PROGRAM, IN A SANDBOX (cutbox-door.mjs). By AI agents, Wed Nov 11 2026. No macro, syntax, notation, axiom, sorry.
-/
import Derived.Test.YtbdgiagmgelcbaaGreatDoorRows
import GoSem.ClaimSeven
namespace Go.Proofs.YtbdgiagmgelcbaaGreatDoor
namespace Rows

/-- THE TIED CARD OF 'laws.FnSaveSmall'. -/
def fnSaveSmallCard : Claim7 := { stood := { row := fnSaveSmallRow, standIns := [], harness := (true, "045cb3a92088db3d1df3329da3d853ff2302490c3faf2bb6b6d99df740e29f59"), looks := true }, kinds := [], alts := [], goes := true, laidByText := true, laidKinds := [.data, .handle, .sentinel, .sentinel, .pinned], laidTests := true, laidLooks := .later }
def FnSaveSmallCardSaid : Prop := Claim7.holds Tryz.pinned (.plain (OpenSpec.ofChange fnSaveSmallSpec)) fnSaveSmallCard

/-- THE SECOND FORM's CARD OF 'laws.FnSaveSmall'. -/
def fnSaveSmallUptoCard : Claim7 := { stood := { row := fnSaveSmallUptoRow, standIns := [], harness := (true, "045cb3a92088db3d1df3329da3d853ff2302490c3faf2bb6b6d99df740e29f59"), looks := true }, kinds := [], alts := [], goes := true, laidByText := true, laidKinds := [.data, .handle, .sentinel, .sentinel, .pinned], laidTests := true, laidLooks := .later }
def FnSaveSmallUptoCardSaid : Prop := Claim7.holds Tryz.pinned (.plain (OpenSpec.upto fnSaveSmallSpec)) fnSaveSmallUptoCard
end Rows
end Go.Proofs.YtbdgiagmgelcbaaGreatDoor
