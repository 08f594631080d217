/-
  DERIVED. GIVEN WITH THE SEED: THE CARDS: each row of YtacjdcdlmahinaaGreatDoorRows.lean that lists a variable, with what it lists TIED to the program's text (the seventh form; the later family's looks); each row that meets fmt, with fmt's text TOLD by the authors' own Lean function (tested against real Go, not proved from fmt's source: count such statements apart). THE CARD IS WHAT COUNTS. Prove the row's statement (the work); the ties are given (YtacjdcdlmahinaaGreatDoorTie.lean); close each card by the builder's one call (the guide's Derived/Test/ToyasCard.lean, 'card_holds'). Laid BY PROGRAM, IN A SANDBOX (cutbox-door.mjs). By AI agents, Wed Nov 11 2026. No macro, syntax, notation, axiom, sorry.
-/
import Derived.Test.YtacjdcdlmahinaaGreatDoorRows
import GoSem.ClaimSeven
namespace Go.Proofs.YtacjdcdlmahinaaGreatDoor
namespace Rows

/-- THE TIED CARD OF 'laws.FnSweepBeside'. -/
def fnSweepBesideCard : Claim7 := { stood := { row := fnSweepBesideRow, standIns := [], harness := (true, "6ea49b25dbda47768687f6640f9d59c076bf2d2075a865e3fcc4214d63d10974"), looks := true }, kinds := [], alts := [], goes := true, laidByText := true, laidKinds := [.data, .handle, .sentinel, .sentinel, .pinned], laidTests := true, laidLooks := .later }
def FnSweepBesideCardSaid : Prop := Claim7.holds Tryz.pinned (.plain (OpenSpec.ofChange fnSweepBesideSpec)) fnSweepBesideCard

/-- THE TIED CARD OF 'laws.FnSweepSave'. -/
def fnSweepSaveCard : Claim7 := { stood := { row := fnSweepSaveRow, standIns := [], harness := (true, "6ea49b25dbda47768687f6640f9d59c076bf2d2075a865e3fcc4214d63d10974"), looks := true }, kinds := [], alts := [], goes := true, laidByText := true, laidKinds := [.data, .handle, .sentinel, .sentinel, .pinned], laidTests := true, laidLooks := .later }
def FnSweepSaveCardSaid : Prop := Claim7.holds Tryz.pinned (.plain (OpenSpec.ofChange fnSweepSaveSpec)) fnSweepSaveCard

/-- THE TIED CARD OF 'laws.FnSweepOrder'. -/
def fnSweepOrderCard : Claim7 := { stood := { row := fnSweepOrderRow, standIns := [], harness := (true, "6ea49b25dbda47768687f6640f9d59c076bf2d2075a865e3fcc4214d63d10974"), looks := true }, kinds := [], alts := [], goes := true, laidByText := true, laidKinds := [.data, .handle, .sentinel, .sentinel, .pinned], laidTests := true, laidLooks := .later }
def FnSweepOrderCardSaid : Prop := Claim7.holds Tryz.pinned (.plain (OpenSpec.ofChange fnSweepOrderSpec)) fnSweepOrderCard

/-- THE SECOND FORM's CARD OF 'laws.FnSweepBeside'. -/
def fnSweepBesideUptoCard : Claim7 := { stood := { row := fnSweepBesideUptoRow, standIns := [], harness := (true, "6ea49b25dbda47768687f6640f9d59c076bf2d2075a865e3fcc4214d63d10974"), looks := true }, kinds := [], alts := [], goes := true, laidByText := true, laidKinds := [.data, .handle, .sentinel, .sentinel, .pinned], laidTests := true, laidLooks := .later }
def FnSweepBesideUptoCardSaid : Prop := Claim7.holds Tryz.pinned (.plain (OpenSpec.upto fnSweepBesideSpec)) fnSweepBesideUptoCard

/-- THE SECOND FORM's CARD OF 'laws.FnSweepSave'. -/
def fnSweepSaveUptoCard : Claim7 := { stood := { row := fnSweepSaveUptoRow, standIns := [], harness := (true, "6ea49b25dbda47768687f6640f9d59c076bf2d2075a865e3fcc4214d63d10974"), looks := true }, kinds := [], alts := [], goes := true, laidByText := true, laidKinds := [.data, .handle, .sentinel, .sentinel, .pinned], laidTests := true, laidLooks := .later }
def FnSweepSaveUptoCardSaid : Prop := Claim7.holds Tryz.pinned (.plain (OpenSpec.upto fnSweepSaveSpec)) fnSweepSaveUptoCard

/-- THE SECOND FORM's CARD OF 'laws.FnSweepOrder'. -/
def fnSweepOrderUptoCard : Claim7 := { stood := { row := fnSweepOrderUptoRow, standIns := [], harness := (true, "6ea49b25dbda47768687f6640f9d59c076bf2d2075a865e3fcc4214d63d10974"), looks := true }, kinds := [], alts := [], goes := true, laidByText := true, laidKinds := [.data, .handle, .sentinel, .sentinel, .pinned], laidTests := true, laidLooks := .later }
def FnSweepOrderUptoCardSaid : Prop := Claim7.holds Tryz.pinned (.plain (OpenSpec.upto fnSweepOrderSpec)) fnSweepOrderUptoCard
end Rows
end Go.Proofs.YtacjdcdlmahinaaGreatDoor
