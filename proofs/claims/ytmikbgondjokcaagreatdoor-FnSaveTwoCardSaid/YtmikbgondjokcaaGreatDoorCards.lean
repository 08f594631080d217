/-
  DERIVED. GIVEN WITH THE SEED: THE CARDS: each row of YtmikbgondjokcaaGreatDoorRows.lean that lists a variable, with what it lists TIED to the program's text (the seventh form; the later family's looks); each row that meets fmt, with fmt's text TOLD by the authors' own Lean function (tested against real Go, not proved from fmt's source: count such statements apart). THE CARD IS WHAT COUNTS. Prove the row's statement (the work); the ties are given (YtmikbgondjokcaaGreatDoorTie.lean); close each card by the builder's one call (the guide's Derived/Test/ToyasCard.lean, 'card_holds'). Laid BY PROGRAM, IN A SANDBOX (cutbox-door.mjs). By AI agents, Wed Nov 11 2026. No macro, syntax, notation, axiom, sorry.
-/
import Derived.Test.YtmikbgondjokcaaGreatDoorRows
import GoSem.ClaimSeven
namespace Go.Proofs.YtmikbgondjokcaaGreatDoor
namespace Rows

/-- THE TIED CARD OF 'laws.FnSaveOnce'. -/
def fnSaveOnceCard : Claim7 := { stood := { row := fnSaveOnceRow, standIns := [], harness := (true, "e791029eac0f26994153e37c9b97e28ae0f01d32b22e00b821f9a9374cd62c63"), looks := true }, kinds := [], alts := [], goes := true, laidByText := true, laidKinds := [.data, .handle, .sentinel, .sentinel, .pinned], laidTests := true, laidLooks := .later }
def FnSaveOnceCardSaid : Prop := Claim7.holds Tryz.pinned (.plain (OpenSpec.ofChange fnSaveOnceSpec)) fnSaveOnceCard

/-- THE TIED CARD OF 'laws.FnStoreEmpty'. -/
def fnStoreEmptyCard : Claim7 := { stood := { row := fnStoreEmptyRow, standIns := [], harness := (true, "e791029eac0f26994153e37c9b97e28ae0f01d32b22e00b821f9a9374cd62c63"), looks := true }, kinds := [], alts := [], goes := true, laidByText := true, laidKinds := [.data, .handle, .sentinel, .sentinel, .pinned], laidTests := true, laidLooks := .later }
def FnStoreEmptyCardSaid : Prop := Claim7.holds Tryz.pinned (.plain (OpenSpec.ofChange fnStoreEmptySpec)) fnStoreEmptyCard

/-- THE TIED CARD OF 'laws.FnSaveTwo'. -/
def fnSaveTwoCard : Claim7 := { stood := { row := fnSaveTwoRow, standIns := [], harness := (true, "e791029eac0f26994153e37c9b97e28ae0f01d32b22e00b821f9a9374cd62c63"), looks := true }, kinds := [], alts := [], goes := true, laidByText := true, laidKinds := [.data, .handle, .sentinel, .sentinel, .pinned], laidTests := true, laidLooks := .later }
def FnSaveTwoCardSaid : Prop := Claim7.holds Tryz.pinned (.plain (OpenSpec.ofChange fnSaveTwoSpec)) fnSaveTwoCard

/-- THE SECOND FORM's CARD OF 'laws.FnSaveOnce'. -/
def fnSaveOnceUptoCard : Claim7 := { stood := { row := fnSaveOnceUptoRow, standIns := [], harness := (true, "e791029eac0f26994153e37c9b97e28ae0f01d32b22e00b821f9a9374cd62c63"), looks := true }, kinds := [], alts := [], goes := true, laidByText := true, laidKinds := [.data, .handle, .sentinel, .sentinel, .pinned], laidTests := true, laidLooks := .later }
def FnSaveOnceUptoCardSaid : Prop := Claim7.holds Tryz.pinned (.plain (OpenSpec.upto fnSaveOnceSpec)) fnSaveOnceUptoCard

/-- THE SECOND FORM's CARD OF 'laws.FnStoreEmpty'. -/
def fnStoreEmptyUptoCard : Claim7 := { stood := { row := fnStoreEmptyUptoRow, standIns := [], harness := (true, "e791029eac0f26994153e37c9b97e28ae0f01d32b22e00b821f9a9374cd62c63"), looks := true }, kinds := [], alts := [], goes := true, laidByText := true, laidKinds := [.data, .handle, .sentinel, .sentinel, .pinned], laidTests := true, laidLooks := .later }
def FnStoreEmptyUptoCardSaid : Prop := Claim7.holds Tryz.pinned (.plain (OpenSpec.upto fnStoreEmptySpec)) fnStoreEmptyUptoCard

/-- THE SECOND FORM's CARD OF 'laws.FnSaveTwo'. -/
def fnSaveTwoUptoCard : Claim7 := { stood := { row := fnSaveTwoUptoRow, standIns := [], harness := (true, "e791029eac0f26994153e37c9b97e28ae0f01d32b22e00b821f9a9374cd62c63"), looks := true }, kinds := [], alts := [], goes := true, laidByText := true, laidKinds := [.data, .handle, .sentinel, .sentinel, .pinned], laidTests := true, laidLooks := .later }
def FnSaveTwoUptoCardSaid : Prop := Claim7.holds Tryz.pinned (.plain (OpenSpec.upto fnSaveTwoSpec)) fnSaveTwoUptoCard
end Rows
end Go.Proofs.YtmikbgondjokcaaGreatDoor
