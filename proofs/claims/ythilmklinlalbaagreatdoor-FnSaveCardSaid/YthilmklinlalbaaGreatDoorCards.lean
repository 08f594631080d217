/-
  DERIVED. GIVEN WITH THE SEED: THE CARDS: each row of YthilmklinlalbaaGreatDoorRows.lean that lists a variable, with what it lists TIED to the program's text (the seventh form; the later family's looks); each row that meets fmt, with fmt's text TOLD by the authors' own Lean function (tested against real Go, not proved from fmt's source: count such statements apart). THE CARD IS WHAT COUNTS. Prove the row's statement (the work); the ties are given (YthilmklinlalbaaGreatDoorTie.lean); close each card by the builder's one call (the guide's Derived/Test/ToyasCard.lean, 'card_holds'). Laid BY PROGRAM, IN A SANDBOX (cutbox-door.mjs). By AI agents, Wed Nov 11 2026. No macro, syntax, notation, axiom, sorry.
-/
import Derived.Test.YthilmklinlalbaaGreatDoorRows
import GoSem.ClaimSeven
namespace Go.Proofs.YthilmklinlalbaaGreatDoor
namespace Rows

/-- THE TIED CARD OF 'laws.FnSaveFull'. -/
def fnSaveFullCard : Claim7 := { stood := { row := fnSaveFullRow, standIns := [], harness := (true, "4dd2ea75bc4772398e7ac1c466049a721deb78d7e454600d77c63d29cae2cc21"), looks := true }, kinds := [], alts := [], goes := true, laidByText := true, laidKinds := [.data, .handle, .sentinel, .sentinel, .pinned], laidTests := true, laidLooks := .later }
def FnSaveFullCardSaid : Prop := Claim7.holds Tryz.pinned (.plain (OpenSpec.ofChange fnSaveFullSpec)) fnSaveFullCard

/-- THE TIED CARD OF 'laws.FnSave'. -/
def fnSaveCard : Claim7 := { stood := { row := fnSaveRow, standIns := [], harness := (true, "4dd2ea75bc4772398e7ac1c466049a721deb78d7e454600d77c63d29cae2cc21"), looks := true }, kinds := [], alts := [], goes := true, laidByText := true, laidKinds := [.data, .handle, .sentinel, .sentinel, .pinned], laidTests := true, laidLooks := .later }
def FnSaveCardSaid : Prop := Claim7.holds Tryz.pinned (.plain (OpenSpec.ofChange fnSaveSpec)) fnSaveCard

/-- THE SECOND FORM's CARD OF 'laws.FnSaveFull'. -/
def fnSaveFullUptoCard : Claim7 := { stood := { row := fnSaveFullUptoRow, standIns := [], harness := (true, "4dd2ea75bc4772398e7ac1c466049a721deb78d7e454600d77c63d29cae2cc21"), looks := true }, kinds := [], alts := [], goes := true, laidByText := true, laidKinds := [.data, .handle, .sentinel, .sentinel, .pinned], laidTests := true, laidLooks := .later }
def FnSaveFullUptoCardSaid : Prop := Claim7.holds Tryz.pinned (.plain (OpenSpec.upto fnSaveFullSpec)) fnSaveFullUptoCard

/-- THE SECOND FORM's CARD OF 'laws.FnSave'. -/
def fnSaveUptoCard : Claim7 := { stood := { row := fnSaveUptoRow, standIns := [], harness := (true, "4dd2ea75bc4772398e7ac1c466049a721deb78d7e454600d77c63d29cae2cc21"), looks := true }, kinds := [], alts := [], goes := true, laidByText := true, laidKinds := [.data, .handle, .sentinel, .sentinel, .pinned], laidTests := true, laidLooks := .later }
def FnSaveUptoCardSaid : Prop := Claim7.holds Tryz.pinned (.plain (OpenSpec.upto fnSaveSpec)) fnSaveUptoCard
end Rows
end Go.Proofs.YthilmklinlalbaaGreatDoor
