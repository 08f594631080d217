/-
  DERIVED. GIVEN WITH THE SEED: THE CARDS: each row of YtbaopamghpnebaaGreatDoorRows.lean that lists a variable, with what it lists TIED to the program's text (the seventh form; the later family's looks); each row that meets fmt, with fmt's text TOLD by the authors' own Lean function (tested against real Go, not proved from fmt's source: count such statements apart). THE CARD IS WHAT COUNTS. Prove the row's statement (the work); the ties are given (YtbaopamghpnebaaGreatDoorTie.lean); close each card by the builder's one call (the guide's Derived/Test/ToyasCard.lean, 'card_holds'). Laid BY PROGRAM, IN A SANDBOX (cutbox-door.mjs). By AI agents, Wed Nov 11 2026. No macro, syntax, notation, axiom, sorry.
-/
import Derived.Test.YtbaopamghpnebaaGreatDoorRows
import GoSem.ClaimSeven
namespace Go.Proofs.YtbaopamghpnebaaGreatDoor
namespace Rows

/-- THE TIED CARD OF 'laws.FnSaveKeep'. -/
def fnSaveKeepCard : Claim7 := { stood := { row := fnSaveKeepRow, standIns := [], harness := (true, "5e35793546e8267f107b46d0fe433a52c935b876c370e9e78dd50228791e09a2"), looks := true }, kinds := [], alts := [], goes := true, laidByText := true, laidKinds := [.data, .handle, .sentinel, .sentinel, .pinned], laidTests := true, laidLooks := .later }
def FnSaveKeepCardSaid : Prop := Claim7.holds Tryz.pinned (.plain (OpenSpec.ofChange fnSaveKeepSpec)) fnSaveKeepCard

/-- THE TIED CARD OF 'laws.FnSavePacks'. -/
def fnSavePacksCard : Claim7 := { stood := { row := fnSavePacksRow, standIns := [], harness := (true, "5e35793546e8267f107b46d0fe433a52c935b876c370e9e78dd50228791e09a2"), looks := true }, kinds := [], alts := [], goes := true, laidByText := true, laidKinds := [.data, .handle, .sentinel, .sentinel, .pinned], laidTests := true, laidLooks := .later }
def FnSavePacksCardSaid : Prop := Claim7.holds Tryz.pinned (.plain (OpenSpec.ofChange fnSavePacksSpec)) fnSavePacksCard

/-- THE TIED CARD OF 'laws.FnSaveOnce'. -/
def fnSaveOnceCard : Claim7 := { stood := { row := fnSaveOnceRow, standIns := [], harness := (true, "5e35793546e8267f107b46d0fe433a52c935b876c370e9e78dd50228791e09a2"), looks := true }, kinds := [], alts := [], goes := true, laidByText := true, laidKinds := [.data, .handle, .sentinel, .sentinel, .pinned], laidTests := true, laidLooks := .later }
def FnSaveOnceCardSaid : Prop := Claim7.holds Tryz.pinned (.plain (OpenSpec.ofChange fnSaveOnceSpec)) fnSaveOnceCard

/-- THE SECOND FORM's CARD OF 'laws.FnSaveKeep'. -/
def fnSaveKeepUptoCard : Claim7 := { stood := { row := fnSaveKeepUptoRow, standIns := [], harness := (true, "5e35793546e8267f107b46d0fe433a52c935b876c370e9e78dd50228791e09a2"), looks := true }, kinds := [], alts := [], goes := true, laidByText := true, laidKinds := [.data, .handle, .sentinel, .sentinel, .pinned], laidTests := true, laidLooks := .later }
def FnSaveKeepUptoCardSaid : Prop := Claim7.holds Tryz.pinned (.plain (OpenSpec.upto fnSaveKeepSpec)) fnSaveKeepUptoCard

/-- THE SECOND FORM's CARD OF 'laws.FnSavePacks'. -/
def fnSavePacksUptoCard : Claim7 := { stood := { row := fnSavePacksUptoRow, standIns := [], harness := (true, "5e35793546e8267f107b46d0fe433a52c935b876c370e9e78dd50228791e09a2"), looks := true }, kinds := [], alts := [], goes := true, laidByText := true, laidKinds := [.data, .handle, .sentinel, .sentinel, .pinned], laidTests := true, laidLooks := .later }
def FnSavePacksUptoCardSaid : Prop := Claim7.holds Tryz.pinned (.plain (OpenSpec.upto fnSavePacksSpec)) fnSavePacksUptoCard

/-- THE SECOND FORM's CARD OF 'laws.FnSaveOnce'. -/
def fnSaveOnceUptoCard : Claim7 := { stood := { row := fnSaveOnceUptoRow, standIns := [], harness := (true, "5e35793546e8267f107b46d0fe433a52c935b876c370e9e78dd50228791e09a2"), looks := true }, kinds := [], alts := [], goes := true, laidByText := true, laidKinds := [.data, .handle, .sentinel, .sentinel, .pinned], laidTests := true, laidLooks := .later }
def FnSaveOnceUptoCardSaid : Prop := Claim7.holds Tryz.pinned (.plain (OpenSpec.upto fnSaveOnceSpec)) fnSaveOnceUptoCard
end Rows
end Go.Proofs.YtbaopamghpnebaaGreatDoor
