/-
  DERIVED. GIVEN WITH THE SEED: THE CARDS: each row of YtmddllcadagmjaaGreatDoorRows.lean that lists a variable, with what it lists TIED to the program's text (the seventh form; the later family's looks); each row that meets fmt, with fmt's text TOLD by the authors' own Lean function (tested against real Go, not proved from fmt's source: count such statements apart). THE CARD IS WHAT COUNTS. Prove the row's statement (the work); the ties are given (YtmddllcadagmjaaGreatDoorTie.lean); close each card by the builder's one call (the guide's Derived/Test/ToyasCard.lean, 'card_holds'). Laid BY PROGRAM, IN A SANDBOX (cutbox-door.mjs). By AI agents, Wed Nov 11 2026. No macro, syntax, notation, axiom, sorry.
-/
import Derived.Test.YtmddllcadagmjaaGreatDoorRows
import GoSem.ClaimSeven
namespace Go.Proofs.YtmddllcadagmjaaGreatDoor
namespace Rows

/-- THE TIED CARD OF 'laws.FnWorldKept'. -/
def fnWorldKeptCard : Claim7 := { stood := { row := fnWorldKeptRow, standIns := [], harness := (true, "ae4994c340a997818b973334035c299329d4fa43e828f9dd2e53dc77b57ddf6b"), looks := true }, kinds := [], alts := [], goes := true, laidByText := true, laidKinds := [.data, .handle, .sentinel, .sentinel, .pinned], laidTests := true, laidLooks := .later }
def FnWorldKeptCardSaid : Prop := Claim7.holds Tryz.pinned (.plain (OpenSpec.ofChange fnWorldKeptSpec)) fnWorldKeptCard

/-- THE TIED CARD OF 'laws.FnWorldSwept'. -/
def fnWorldSweptCard : Claim7 := { stood := { row := fnWorldSweptRow, standIns := [], harness := (true, "ae4994c340a997818b973334035c299329d4fa43e828f9dd2e53dc77b57ddf6b"), looks := true }, kinds := [], alts := [], goes := true, laidByText := true, laidKinds := [.data, .handle, .sentinel, .sentinel, .pinned], laidTests := true, laidLooks := .later }
def FnWorldSweptCardSaid : Prop := Claim7.holds Tryz.pinned (.plain (OpenSpec.ofChange fnWorldSweptSpec)) fnWorldSweptCard

/-- THE SECOND FORM's CARD OF 'laws.FnWorldKept'. -/
def fnWorldKeptUptoCard : Claim7 := { stood := { row := fnWorldKeptUptoRow, standIns := [], harness := (true, "ae4994c340a997818b973334035c299329d4fa43e828f9dd2e53dc77b57ddf6b"), looks := true }, kinds := [], alts := [], goes := true, laidByText := true, laidKinds := [.data, .handle, .sentinel, .sentinel, .pinned], laidTests := true, laidLooks := .later }
def FnWorldKeptUptoCardSaid : Prop := Claim7.holds Tryz.pinned (.plain (OpenSpec.upto fnWorldKeptSpec)) fnWorldKeptUptoCard

/-- THE SECOND FORM's CARD OF 'laws.FnWorldSwept'. -/
def fnWorldSweptUptoCard : Claim7 := { stood := { row := fnWorldSweptUptoRow, standIns := [], harness := (true, "ae4994c340a997818b973334035c299329d4fa43e828f9dd2e53dc77b57ddf6b"), looks := true }, kinds := [], alts := [], goes := true, laidByText := true, laidKinds := [.data, .handle, .sentinel, .sentinel, .pinned], laidTests := true, laidLooks := .later }
def FnWorldSweptUptoCardSaid : Prop := Claim7.holds Tryz.pinned (.plain (OpenSpec.upto fnWorldSweptSpec)) fnWorldSweptUptoCard
end Rows
end Go.Proofs.YtmddllcadagmjaaGreatDoor
