/-
  DERIVED. GIVEN WITH THE SEED: THE CARDS: each row of YtnfgfnpbmbalmaaGreatDoorRows.lean that lists a variable, with what it lists TIED to the program's text (the seventh form; the later family's looks); each row that meets fmt, with fmt's text TOLD by the authors' own Lean function (tested against real Go, not proved from fmt's source: count such statements apart). THE CARD IS WHAT COUNTS. Prove the row's statement (the work); the ties are given (YtnfgfnpbmbalmaaGreatDoorTie.lean); close each card by the builder's one call (the guide's Derived/Test/ToyasCard.lean, 'card_holds'). Laid BY PROGRAM, IN A SANDBOX (cutbox-door.mjs). By AI agents, Wed Nov 11 2026. No macro, syntax, notation, axiom, sorry.
-/
import Derived.Test.YtnfgfnpbmbalmaaGreatDoorRows
import GoSem.ClaimSeven
namespace Go.Proofs.YtnfgfnpbmbalmaaGreatDoor
namespace Rows

/-- THE TIED CARD OF 'laws.FnWorldLoad'. -/
def fnWorldLoadCard : Claim7 := { stood := { row := fnWorldLoadRow, standIns := [], harness := (true, "d923ee8f098718f22c52ce0cbe68ef4a9812b9e9c8e2481e55719a7676342278"), looks := false }, kinds := [], alts := [], goes := true, laidByText := true, laidKinds := [.data, .sentinel, .sentinel, .pinned], laidTests := true, laidLooks := .later }
def FnWorldLoadCardSaid : Prop := Claim7.holds Tryz.pinned (.plain (OpenSpec.ofChange fnWorldLoadSpec)) fnWorldLoadCard

/-- THE TIED CARD OF 'laws.FnWorldWell'. -/
def fnWorldWellCard : Claim7 := { stood := { row := fnWorldWellRow, standIns := [], harness := (true, "d923ee8f098718f22c52ce0cbe68ef4a9812b9e9c8e2481e55719a7676342278"), looks := false }, kinds := [], alts := [], goes := true, laidByText := true, laidKinds := [.data, .sentinel, .sentinel, .pinned], laidTests := true, laidLooks := .later }
def FnWorldWellCardSaid : Prop := Claim7.holds Tryz.pinned (.plain (OpenSpec.ofChange fnWorldWellSpec)) fnWorldWellCard

/-- THE SECOND FORM's CARD OF 'laws.FnWorldLoad'. -/
def fnWorldLoadUptoCard : Claim7 := { stood := { row := fnWorldLoadUptoRow, standIns := [], harness := (true, "d923ee8f098718f22c52ce0cbe68ef4a9812b9e9c8e2481e55719a7676342278"), looks := false }, kinds := [], alts := [], goes := true, laidByText := true, laidKinds := [.data, .sentinel, .sentinel, .pinned], laidTests := true, laidLooks := .later }
def FnWorldLoadUptoCardSaid : Prop := Claim7.holds Tryz.pinned (.plain (OpenSpec.upto fnWorldLoadSpec)) fnWorldLoadUptoCard

/-- THE SECOND FORM's CARD OF 'laws.FnWorldWell'. -/
def fnWorldWellUptoCard : Claim7 := { stood := { row := fnWorldWellUptoRow, standIns := [], harness := (true, "d923ee8f098718f22c52ce0cbe68ef4a9812b9e9c8e2481e55719a7676342278"), looks := false }, kinds := [], alts := [], goes := true, laidByText := true, laidKinds := [.data, .sentinel, .sentinel, .pinned], laidTests := true, laidLooks := .later }
def FnWorldWellUptoCardSaid : Prop := Claim7.holds Tryz.pinned (.plain (OpenSpec.upto fnWorldWellSpec)) fnWorldWellUptoCard
end Rows
end Go.Proofs.YtnfgfnpbmbalmaaGreatDoor
