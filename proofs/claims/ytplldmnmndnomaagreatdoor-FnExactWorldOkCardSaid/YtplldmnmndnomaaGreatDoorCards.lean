/-
  DERIVED. GIVEN WITH THE SEED: THE CARDS: each row of YtplldmnmndnomaaGreatDoorRows.lean that lists a variable, with what it lists TIED to the program's text (the seventh form; the later family's looks); each row that meets fmt, with fmt's text TOLD by the authors' own Lean function (tested against real Go, not proved from fmt's source: count such statements apart). THE CARD IS WHAT COUNTS. Prove the row's statement (the work); the ties are given (YtplldmnmndnomaaGreatDoorTie.lean); close each card by the builder's one call (the guide's Derived/Test/ToyasCard.lean, 'card_holds'). Laid BY PROGRAM, IN A SANDBOX (cutbox-door.mjs). By AI agents, Wed Nov 11 2026. No macro, syntax, notation, axiom, sorry.
-/
import Derived.Test.YtplldmnmndnomaaGreatDoorRows
import GoSem.ClaimSeven
namespace Go.Proofs.YtplldmnmndnomaaGreatDoor
namespace Rows

/-- THE TIED CARD OF 'laws.FnExactWorldOk'. -/
def fnExactWorldOkCard : Claim7 := { stood := { row := fnExactWorldOkRow, standIns := [], harness := (true, "95accdc6bf664d8a123c9da541f668c7a0d8c89e0f8397b9bc59f7484d8c981c"), looks := false }, kinds := [], alts := [], goes := true, laidByText := true, laidKinds := [.data, .sentinel, .sentinel, .pinned], laidTests := true, laidLooks := .later }
def FnExactWorldOkCardSaid : Prop := Claim7.holds Tryz.pinned (.plain (OpenSpec.ofChange fnExactWorldOkSpec)) fnExactWorldOkCard

/-- THE SECOND FORM's CARD OF 'laws.FnExactWorldOk'. -/
def fnExactWorldOkUptoCard : Claim7 := { stood := { row := fnExactWorldOkUptoRow, standIns := [], harness := (true, "95accdc6bf664d8a123c9da541f668c7a0d8c89e0f8397b9bc59f7484d8c981c"), looks := false }, kinds := [], alts := [], goes := true, laidByText := true, laidKinds := [.data, .sentinel, .sentinel, .pinned], laidTests := true, laidLooks := .later }
def FnExactWorldOkUptoCardSaid : Prop := Claim7.holds Tryz.pinned (.plain (OpenSpec.upto fnExactWorldOkSpec)) fnExactWorldOkUptoCard
end Rows
end Go.Proofs.YtplldmnmndnomaaGreatDoor
