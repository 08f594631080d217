/-
  DERIVED. GIVEN WITH THE SEED: THE CARDS: each row of YtemefbgdmkionaaGreatDoorRows.lean that lists a variable, with what it lists TIED to the program's text (the seventh form; the later family's looks); each row that meets fmt, with fmt's text TOLD by the authors' own Lean function (tested against real Go, not proved from fmt's source: count such statements apart). THE CARD IS WHAT COUNTS. Prove the row's statement (the work); the ties are given (YtemefbgdmkionaaGreatDoorTie.lean); close each card by the builder's one call (the guide's Derived/Test/ToyasCard.lean, 'card_holds'). Laid BY PROGRAM, IN A SANDBOX (cutbox-door.mjs). By AI agents, Wed Nov 11 2026. No macro, syntax, notation, axiom, sorry.
-/
import Derived.Test.YtemefbgdmkionaaGreatDoorRows
import GoSem.ClaimSeven
namespace Go.Proofs.YtemefbgdmkionaaGreatDoor
namespace Rows

/-- THE TIED CARD OF 'laws.FnWorldForm'. -/
def fnWorldFormCard : Claim7 := { stood := { row := fnWorldFormRow, standIns := [], harness := (true, "a274cb1e814644dfb4995134c85a09ad1abaf2413978f6856310315fa0e3167e"), looks := false }, kinds := [], alts := [], goes := true, laidByText := true, laidKinds := [.data, .sentinel, .sentinel, .pinned], laidTests := true, laidLooks := .later }
def FnWorldFormCardSaid : Prop := Claim7.holds Tryz.pinned (.plain (OpenSpec.ofChange fnWorldFormSpec)) fnWorldFormCard

/-- THE TIED CARD OF 'laws.FnWorldShown'. -/
def fnWorldShownCard : Claim7 := { stood := { row := fnWorldShownRow, standIns := [], harness := (true, "a274cb1e814644dfb4995134c85a09ad1abaf2413978f6856310315fa0e3167e"), looks := false }, kinds := [], alts := [], goes := true, laidByText := true, laidKinds := [.data, .sentinel, .sentinel, .pinned], laidTests := true, laidLooks := .later }
def FnWorldShownCardSaid : Prop := Claim7.holds Tryz.pinned (.plain (OpenSpec.ofChange fnWorldShownSpec)) fnWorldShownCard

/-- THE SECOND FORM's CARD OF 'laws.FnWorldForm'. -/
def fnWorldFormUptoCard : Claim7 := { stood := { row := fnWorldFormUptoRow, standIns := [], harness := (true, "a274cb1e814644dfb4995134c85a09ad1abaf2413978f6856310315fa0e3167e"), looks := false }, kinds := [], alts := [], goes := true, laidByText := true, laidKinds := [.data, .sentinel, .sentinel, .pinned], laidTests := true, laidLooks := .later }
def FnWorldFormUptoCardSaid : Prop := Claim7.holds Tryz.pinned (.plain (OpenSpec.upto fnWorldFormSpec)) fnWorldFormUptoCard

/-- THE SECOND FORM's CARD OF 'laws.FnWorldShown'. -/
def fnWorldShownUptoCard : Claim7 := { stood := { row := fnWorldShownUptoRow, standIns := [], harness := (true, "a274cb1e814644dfb4995134c85a09ad1abaf2413978f6856310315fa0e3167e"), looks := false }, kinds := [], alts := [], goes := true, laidByText := true, laidKinds := [.data, .sentinel, .sentinel, .pinned], laidTests := true, laidLooks := .later }
def FnWorldShownUptoCardSaid : Prop := Claim7.holds Tryz.pinned (.plain (OpenSpec.upto fnWorldShownSpec)) fnWorldShownUptoCard
end Rows
end Go.Proofs.YtemefbgdmkionaaGreatDoor
