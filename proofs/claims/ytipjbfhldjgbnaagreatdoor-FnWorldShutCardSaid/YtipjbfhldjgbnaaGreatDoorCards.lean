/-
  DERIVED. GIVEN WITH THE SEED: THE CARDS: each row of YtipjbfhldjgbnaaGreatDoorRows.lean that lists a variable, with what it lists TIED to the program's text (the seventh form; the later family's looks); each row that meets fmt, with fmt's text TOLD by the authors' own Lean function (tested against real Go, not proved from fmt's source: count such statements apart). THE CARD IS WHAT COUNTS. Prove the row's statement (the work); the ties are given (YtipjbfhldjgbnaaGreatDoorTie.lean); close each card by the builder's one call (the guide's Derived/Test/ToyasCard.lean, 'card_holds'). Laid BY PROGRAM, IN A SANDBOX (cutbox-door.mjs). By AI agents, Wed Nov 11 2026. No macro, syntax, notation, axiom, sorry.
-/
import Derived.Test.YtipjbfhldjgbnaaGreatDoorRows
import GoSem.ClaimSeven
namespace Go.Proofs.YtipjbfhldjgbnaaGreatDoor
namespace Rows

/-- THE TIED CARD OF 'laws.FnWorldFind'. -/
def fnWorldFindCard : Claim7 := { stood := { row := fnWorldFindRow, standIns := [], harness := (true, "fab6195a18551b071a0f38a2e8b85d32cb316badbeb87103fe2704d9d9441134"), looks := true }, kinds := [], alts := [], goes := true, laidByText := true, laidKinds := [.data, .handle, .sentinel, .sentinel, .pinned], laidTests := true, laidLooks := .later }
def FnWorldFindCardSaid : Prop := Claim7.holds Tryz.pinned (.plain (OpenSpec.ofChange fnWorldFindSpec)) fnWorldFindCard

/-- THE TIED CARD OF 'laws.FnWorldShut'. -/
def fnWorldShutCard : Claim7 := { stood := { row := fnWorldShutRow, standIns := [], harness := (true, "fab6195a18551b071a0f38a2e8b85d32cb316badbeb87103fe2704d9d9441134"), looks := true }, kinds := [], alts := [], goes := true, laidByText := true, laidKinds := [.data, .handle, .sentinel, .sentinel, .pinned], laidTests := true, laidLooks := .later }
def FnWorldShutCardSaid : Prop := Claim7.holds Tryz.pinned (.plain (OpenSpec.ofChange fnWorldShutSpec)) fnWorldShutCard

/-- THE SECOND FORM's CARD OF 'laws.FnWorldFind'. -/
def fnWorldFindUptoCard : Claim7 := { stood := { row := fnWorldFindUptoRow, standIns := [], harness := (true, "fab6195a18551b071a0f38a2e8b85d32cb316badbeb87103fe2704d9d9441134"), looks := true }, kinds := [], alts := [], goes := true, laidByText := true, laidKinds := [.data, .handle, .sentinel, .sentinel, .pinned], laidTests := true, laidLooks := .later }
def FnWorldFindUptoCardSaid : Prop := Claim7.holds Tryz.pinned (.plain (OpenSpec.upto fnWorldFindSpec)) fnWorldFindUptoCard

/-- THE SECOND FORM's CARD OF 'laws.FnWorldShut'. -/
def fnWorldShutUptoCard : Claim7 := { stood := { row := fnWorldShutUptoRow, standIns := [], harness := (true, "fab6195a18551b071a0f38a2e8b85d32cb316badbeb87103fe2704d9d9441134"), looks := true }, kinds := [], alts := [], goes := true, laidByText := true, laidKinds := [.data, .handle, .sentinel, .sentinel, .pinned], laidTests := true, laidLooks := .later }
def FnWorldShutUptoCardSaid : Prop := Claim7.holds Tryz.pinned (.plain (OpenSpec.upto fnWorldShutSpec)) fnWorldShutUptoCard
end Rows
end Go.Proofs.YtipjbfhldjgbnaaGreatDoor
