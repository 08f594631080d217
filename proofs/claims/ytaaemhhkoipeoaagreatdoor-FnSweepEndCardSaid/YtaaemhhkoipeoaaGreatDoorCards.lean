/-
  DERIVED. GIVEN WITH THE SEED: THE CARDS: each row of YtaaemhhkoipeoaaGreatDoorRows.lean that lists a variable, with what it lists TIED to the program's text (the seventh form; the later family's looks); each row that meets fmt, with fmt's text TOLD by the authors' own Lean function (tested against real Go, not proved from fmt's source: count such statements apart). THE CARD IS WHAT COUNTS. Prove the row's statement (the work); the ties are given (YtaaemhhkoipeoaaGreatDoorTie.lean); close each card by the builder's one call (the guide's Derived/Test/ToyasCard.lean, 'card_holds'). Laid BY PROGRAM, IN A SANDBOX (cutbox-door.mjs). By AI agents, Wed Nov 11 2026. No macro, syntax, notation, axiom, sorry.
-/
import Derived.Test.YtaaemhhkoipeoaaGreatDoorRows
import GoSem.ClaimSeven
namespace Go.Proofs.YtaaemhhkoipeoaaGreatDoor
namespace Rows

/-- THE TIED CARD OF 'laws.FnSweepStep'. -/
def fnSweepStepCard : Claim7 := { stood := { row := fnSweepStepRow, standIns := [], harness := (true, "26da3db513d0f8e54e32a59c1ec00eba5ec289ca53c6d6d40d3e9c4f4003ee69"), looks := false }, kinds := [], alts := [], goes := true, laidByText := true, laidKinds := [.data, .sentinel, .sentinel, .pinned], laidTests := true, laidLooks := .later }
def FnSweepStepCardSaid : Prop := Claim7.holds Tryz.pinned (.plain (OpenSpec.ofChange fnSweepStepSpec)) fnSweepStepCard

/-- THE TIED CARD OF 'laws.FnSweepEnd'. -/
def fnSweepEndCard : Claim7 := { stood := { row := fnSweepEndRow, standIns := [], harness := (true, "26da3db513d0f8e54e32a59c1ec00eba5ec289ca53c6d6d40d3e9c4f4003ee69"), looks := false }, kinds := [], alts := [], goes := true, laidByText := true, laidKinds := [.data, .sentinel, .sentinel, .pinned], laidTests := true, laidLooks := .later }
def FnSweepEndCardSaid : Prop := Claim7.holds Tryz.pinned (.plain (OpenSpec.ofChange fnSweepEndSpec)) fnSweepEndCard

/-- THE TIED CARD OF 'laws.FnSweepSafe'. -/
def fnSweepSafeCard : Claim7 := { stood := { row := fnSweepSafeRow, standIns := [], harness := (true, "26da3db513d0f8e54e32a59c1ec00eba5ec289ca53c6d6d40d3e9c4f4003ee69"), looks := false }, kinds := [], alts := [], goes := true, laidByText := true, laidKinds := [.data, .sentinel, .sentinel, .pinned], laidTests := true, laidLooks := .later }
def FnSweepSafeCardSaid : Prop := Claim7.holds Tryz.pinned (.plain (OpenSpec.ofChange fnSweepSafeSpec)) fnSweepSafeCard

/-- THE SECOND FORM's CARD OF 'laws.FnSweepStep'. -/
def fnSweepStepUptoCard : Claim7 := { stood := { row := fnSweepStepUptoRow, standIns := [], harness := (true, "26da3db513d0f8e54e32a59c1ec00eba5ec289ca53c6d6d40d3e9c4f4003ee69"), looks := false }, kinds := [], alts := [], goes := true, laidByText := true, laidKinds := [.data, .sentinel, .sentinel, .pinned], laidTests := true, laidLooks := .later }
def FnSweepStepUptoCardSaid : Prop := Claim7.holds Tryz.pinned (.plain (OpenSpec.upto fnSweepStepSpec)) fnSweepStepUptoCard

/-- THE SECOND FORM's CARD OF 'laws.FnSweepEnd'. -/
def fnSweepEndUptoCard : Claim7 := { stood := { row := fnSweepEndUptoRow, standIns := [], harness := (true, "26da3db513d0f8e54e32a59c1ec00eba5ec289ca53c6d6d40d3e9c4f4003ee69"), looks := false }, kinds := [], alts := [], goes := true, laidByText := true, laidKinds := [.data, .sentinel, .sentinel, .pinned], laidTests := true, laidLooks := .later }
def FnSweepEndUptoCardSaid : Prop := Claim7.holds Tryz.pinned (.plain (OpenSpec.upto fnSweepEndSpec)) fnSweepEndUptoCard

/-- THE SECOND FORM's CARD OF 'laws.FnSweepSafe'. -/
def fnSweepSafeUptoCard : Claim7 := { stood := { row := fnSweepSafeUptoRow, standIns := [], harness := (true, "26da3db513d0f8e54e32a59c1ec00eba5ec289ca53c6d6d40d3e9c4f4003ee69"), looks := false }, kinds := [], alts := [], goes := true, laidByText := true, laidKinds := [.data, .sentinel, .sentinel, .pinned], laidTests := true, laidLooks := .later }
def FnSweepSafeUptoCardSaid : Prop := Claim7.holds Tryz.pinned (.plain (OpenSpec.upto fnSweepSafeSpec)) fnSweepSafeUptoCard
end Rows
end Go.Proofs.YtaaemhhkoipeoaaGreatDoor
