/-
  DERIVED. GIVEN WITH THE SEED: THE CARDS: each row of YtnaddfhedinfmaaGreatDoorRows.lean that lists a variable, with what it lists TIED to the program's text (the seventh form; the later family's looks); each row that meets fmt, with fmt's text TOLD by the authors' own Lean function (tested against real Go, not proved from fmt's source: count such statements apart). THE CARD IS WHAT COUNTS. Prove the row's statement (the work); the ties are given (YtnaddfhedinfmaaGreatDoorTie.lean); close each card by the builder's one call (the guide's Derived/Test/ToyasCard.lean, 'card_holds'). Laid BY PROGRAM, IN A SANDBOX (cutbox-door.mjs). By AI agents, Wed Nov 11 2026. No macro, syntax, notation, axiom, sorry.
-/
import Derived.Test.YtnaddfhedinfmaaGreatDoorRows
import GoSem.ClaimSeven
namespace Go.Proofs.YtnaddfhedinfmaaGreatDoor
namespace Rows

/-- THE TIED CARD OF 'laws.FnWorldIdle'. -/
def fnWorldIdleCard : Claim7 := { stood := { row := fnWorldIdleRow, standIns := [], harness := (true, "6492a872746763c5919dda0eb6b9c0f07f1070bf98ca95e69210166d53adcef2"), looks := true }, kinds := [], alts := [], goes := true, laidByText := true, laidKinds := [.data, .handle, .sentinel, .sentinel, .pinned], laidTests := true, laidLooks := .later }
def FnWorldIdleCardSaid : Prop := Claim7.holds Tryz.pinned (.plain (OpenSpec.ofChange fnWorldIdleSpec)) fnWorldIdleCard

/-- THE SECOND FORM's CARD OF 'laws.FnWorldIdle'. -/
def fnWorldIdleUptoCard : Claim7 := { stood := { row := fnWorldIdleUptoRow, standIns := [], harness := (true, "6492a872746763c5919dda0eb6b9c0f07f1070bf98ca95e69210166d53adcef2"), looks := true }, kinds := [], alts := [], goes := true, laidByText := true, laidKinds := [.data, .handle, .sentinel, .sentinel, .pinned], laidTests := true, laidLooks := .later }
def FnWorldIdleUptoCardSaid : Prop := Claim7.holds Tryz.pinned (.plain (OpenSpec.upto fnWorldIdleSpec)) fnWorldIdleUptoCard
end Rows
end Go.Proofs.YtnaddfhedinfmaaGreatDoor
