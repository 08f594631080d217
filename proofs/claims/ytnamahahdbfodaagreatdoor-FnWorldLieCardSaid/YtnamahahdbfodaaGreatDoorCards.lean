/-
  DERIVED. GIVEN WITH THE SEED: THE CARDS: each row of YtnamahahdbfodaaGreatDoorRows.lean that lists a variable, with what it lists TIED to the program's text (the seventh form; the later family's looks); each row that meets fmt, with fmt's text TOLD by the authors' own Lean function (tested against real Go, not proved from fmt's source: count such statements apart). THE CARD IS WHAT COUNTS. Prove the row's statement (the work); the ties are given (YtnamahahdbfodaaGreatDoorTie.lean); close each card by the builder's one call (the guide's Derived/Test/ToyasCard.lean, 'card_holds'). Laid BY PROGRAM, IN A SANDBOX (cutbox-door.mjs). By AI agents, Wed Nov 11 2026. No macro, syntax, notation, axiom, sorry.
-/
import Derived.Test.YtnamahahdbfodaaGreatDoorRows
import GoSem.ClaimSeven
namespace Go.Proofs.YtnamahahdbfodaaGreatDoor
namespace Rows

/-- THE TIED CARD OF 'laws.FnWorldLook'. -/
def fnWorldLookCard : Claim7 := { stood := { row := fnWorldLookRow, standIns := [], harness := (true, "cd40245afb584ac164b8384dfc68a2aba45ab23c129359342418e0917e64af82"), looks := true }, kinds := [], alts := [], goes := true, laidByText := true, laidKinds := [.data, .handle, .sentinel, .sentinel, .pinned], laidTests := true, laidLooks := .later }
def FnWorldLookCardSaid : Prop := Claim7.holds Tryz.pinned (.plain (OpenSpec.ofChange fnWorldLookSpec)) fnWorldLookCard

/-- THE TIED CARD OF 'laws.FnWorldLie'. -/
def fnWorldLieCard : Claim7 := { stood := { row := fnWorldLieRow, standIns := [], harness := (true, "cd40245afb584ac164b8384dfc68a2aba45ab23c129359342418e0917e64af82"), looks := true }, kinds := [], alts := [], goes := true, laidByText := true, laidKinds := [.data, .handle, .sentinel, .sentinel, .pinned], laidTests := true, laidLooks := .later }
def FnWorldLieCardSaid : Prop := Claim7.holds Tryz.pinned (.plain (OpenSpec.ofChange fnWorldLieSpec)) fnWorldLieCard

/-- THE SECOND FORM's CARD OF 'laws.FnWorldLook'. -/
def fnWorldLookUptoCard : Claim7 := { stood := { row := fnWorldLookUptoRow, standIns := [], harness := (true, "cd40245afb584ac164b8384dfc68a2aba45ab23c129359342418e0917e64af82"), looks := true }, kinds := [], alts := [], goes := true, laidByText := true, laidKinds := [.data, .handle, .sentinel, .sentinel, .pinned], laidTests := true, laidLooks := .later }
def FnWorldLookUptoCardSaid : Prop := Claim7.holds Tryz.pinned (.plain (OpenSpec.upto fnWorldLookSpec)) fnWorldLookUptoCard

/-- THE SECOND FORM's CARD OF 'laws.FnWorldLie'. -/
def fnWorldLieUptoCard : Claim7 := { stood := { row := fnWorldLieUptoRow, standIns := [], harness := (true, "cd40245afb584ac164b8384dfc68a2aba45ab23c129359342418e0917e64af82"), looks := true }, kinds := [], alts := [], goes := true, laidByText := true, laidKinds := [.data, .handle, .sentinel, .sentinel, .pinned], laidTests := true, laidLooks := .later }
def FnWorldLieUptoCardSaid : Prop := Claim7.holds Tryz.pinned (.plain (OpenSpec.upto fnWorldLieSpec)) fnWorldLieUptoCard
end Rows
end Go.Proofs.YtnamahahdbfodaaGreatDoor
