/-
  DERIVED. GIVEN WITH THE SEED: THE CARDS: each row of YtonljemllpgcbaaGreatDoorRows.lean that lists a variable, with what it lists TIED to the program's text (the seventh form; the later family's looks); each row that meets fmt, with fmt's text TOLD by the authors' own Lean function (tested against real Go, not proved from fmt's source: count such statements apart). THE CARD IS WHAT COUNTS. Prove the row's statement (the work); the ties are given (YtonljemllpgcbaaGreatDoorTie.lean); close each card by the builder's one call (the guide's Derived/Test/ToyasCard.lean, 'card_holds'). Laid BY PROGRAM, IN A SANDBOX (cutbox-door.mjs). By AI agents, Wed Nov 11 2026. No macro, syntax, notation, axiom, sorry.
-/
import Derived.Test.YtonljemllpgcbaaGreatDoorRows
import GoSem.ClaimSeven
namespace Go.Proofs.YtonljemllpgcbaaGreatDoor
namespace Rows

/-- THE TIED CARD OF 'laws.FnWorldCut'. -/
def fnWorldCutCard : Claim7 := { stood := { row := fnWorldCutRow, standIns := [], harness := (true, "01a6d9c994e820199acc37456f68606aad65eee887a2ef03481ef2bea7591ea4"), looks := true }, kinds := [], alts := [], goes := true, laidByText := true, laidKinds := [.data, .handle, .sentinel, .sentinel, .pinned], laidTests := true, laidLooks := .later }
def FnWorldCutCardSaid : Prop := Claim7.holds Tryz.pinned (.plain (OpenSpec.ofChange fnWorldCutSpec)) fnWorldCutCard

/-- THE TIED CARD OF 'laws.FnWorldHonest'. -/
def fnWorldHonestCard : Claim7 := { stood := { row := fnWorldHonestRow, standIns := [], harness := (true, "01a6d9c994e820199acc37456f68606aad65eee887a2ef03481ef2bea7591ea4"), looks := true }, kinds := [], alts := [], goes := true, laidByText := true, laidKinds := [.data, .handle, .sentinel, .sentinel, .pinned], laidTests := true, laidLooks := .later }
def FnWorldHonestCardSaid : Prop := Claim7.holds Tryz.pinned (.plain (OpenSpec.ofChange fnWorldHonestSpec)) fnWorldHonestCard

/-- THE SECOND FORM's CARD OF 'laws.FnWorldCut'. -/
def fnWorldCutUptoCard : Claim7 := { stood := { row := fnWorldCutUptoRow, standIns := [], harness := (true, "01a6d9c994e820199acc37456f68606aad65eee887a2ef03481ef2bea7591ea4"), looks := true }, kinds := [], alts := [], goes := true, laidByText := true, laidKinds := [.data, .handle, .sentinel, .sentinel, .pinned], laidTests := true, laidLooks := .later }
def FnWorldCutUptoCardSaid : Prop := Claim7.holds Tryz.pinned (.plain (OpenSpec.upto fnWorldCutSpec)) fnWorldCutUptoCard

/-- THE SECOND FORM's CARD OF 'laws.FnWorldHonest'. -/
def fnWorldHonestUptoCard : Claim7 := { stood := { row := fnWorldHonestUptoRow, standIns := [], harness := (true, "01a6d9c994e820199acc37456f68606aad65eee887a2ef03481ef2bea7591ea4"), looks := true }, kinds := [], alts := [], goes := true, laidByText := true, laidKinds := [.data, .handle, .sentinel, .sentinel, .pinned], laidTests := true, laidLooks := .later }
def FnWorldHonestUptoCardSaid : Prop := Claim7.holds Tryz.pinned (.plain (OpenSpec.upto fnWorldHonestSpec)) fnWorldHonestUptoCard
end Rows
end Go.Proofs.YtonljemllpgcbaaGreatDoor
