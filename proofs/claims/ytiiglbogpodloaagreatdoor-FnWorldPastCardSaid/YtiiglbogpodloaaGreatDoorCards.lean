/-
  DERIVED. GIVEN WITH THE SEED: THE CARDS: each row of YtiiglbogpodloaaGreatDoorRows.lean that lists a variable, with what it lists TIED to the program's text (the seventh form; the later family's looks); each row that meets fmt, with fmt's text TOLD by the authors' own Lean function (tested against real Go, not proved from fmt's source: count such statements apart). THE CARD IS WHAT COUNTS. Prove the row's statement (the work); the ties are given (YtiiglbogpodloaaGreatDoorTie.lean); close each card by the builder's one call (the guide's Derived/Test/ToyasCard.lean, 'card_holds'). Laid BY PROGRAM, IN A SANDBOX (cutbox-door.mjs). By AI agents, Wed Nov 11 2026. No macro, syntax, notation, axiom, sorry.
-/
import Derived.Test.YtiiglbogpodloaaGreatDoorRows
import GoSem.ClaimSeven
namespace Go.Proofs.YtiiglbogpodloaaGreatDoor
namespace Rows

/-- THE TIED CARD OF 'laws.FnWorldPast'. -/
def fnWorldPastCard : Claim7 := { stood := { row := fnWorldPastRow, standIns := [], harness := (true, "df742f707da32d16b7be0f971f221435bf17019baaa08ea631de70813d5c6c0a"), looks := true }, kinds := [], alts := [], goes := true, laidByText := true, laidKinds := [.data, .handle, .sentinel, .sentinel, .pinned], laidTests := true, laidLooks := .later }
def FnWorldPastCardSaid : Prop := Claim7.holds Tryz.pinned (.plain (OpenSpec.ofChange fnWorldPastSpec)) fnWorldPastCard

/-- THE TIED CARD OF 'laws.FnWorldTwo'. -/
def fnWorldTwoCard : Claim7 := { stood := { row := fnWorldTwoRow, standIns := [], harness := (true, "df742f707da32d16b7be0f971f221435bf17019baaa08ea631de70813d5c6c0a"), looks := true }, kinds := [], alts := [], goes := true, laidByText := true, laidKinds := [.data, .handle, .sentinel, .sentinel, .pinned], laidTests := true, laidLooks := .later }
def FnWorldTwoCardSaid : Prop := Claim7.holds Tryz.pinned (.plain (OpenSpec.ofChange fnWorldTwoSpec)) fnWorldTwoCard

/-- THE SECOND FORM's CARD OF 'laws.FnWorldPast'. -/
def fnWorldPastUptoCard : Claim7 := { stood := { row := fnWorldPastUptoRow, standIns := [], harness := (true, "df742f707da32d16b7be0f971f221435bf17019baaa08ea631de70813d5c6c0a"), looks := true }, kinds := [], alts := [], goes := true, laidByText := true, laidKinds := [.data, .handle, .sentinel, .sentinel, .pinned], laidTests := true, laidLooks := .later }
def FnWorldPastUptoCardSaid : Prop := Claim7.holds Tryz.pinned (.plain (OpenSpec.upto fnWorldPastSpec)) fnWorldPastUptoCard

/-- THE SECOND FORM's CARD OF 'laws.FnWorldTwo'. -/
def fnWorldTwoUptoCard : Claim7 := { stood := { row := fnWorldTwoUptoRow, standIns := [], harness := (true, "df742f707da32d16b7be0f971f221435bf17019baaa08ea631de70813d5c6c0a"), looks := true }, kinds := [], alts := [], goes := true, laidByText := true, laidKinds := [.data, .handle, .sentinel, .sentinel, .pinned], laidTests := true, laidLooks := .later }
def FnWorldTwoUptoCardSaid : Prop := Claim7.holds Tryz.pinned (.plain (OpenSpec.upto fnWorldTwoSpec)) fnWorldTwoUptoCard
end Rows
end Go.Proofs.YtiiglbogpodloaaGreatDoor
