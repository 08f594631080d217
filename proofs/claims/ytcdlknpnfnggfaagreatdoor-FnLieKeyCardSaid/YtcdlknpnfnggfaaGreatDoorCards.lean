/-
  DERIVED. GIVEN WITH THE SEED: THE CARDS: each row of YtcdlknpnfnggfaaGreatDoorRows.lean that lists a variable, with what it lists TIED to the program's text (the seventh form; the later family's looks); each row that meets fmt, with fmt's text TOLD by the authors' own Lean function (tested against real Go, not proved from fmt's source: count such statements apart). THE CARD IS WHAT COUNTS. Prove the row's statement (the work); the ties are given (YtcdlknpnfnggfaaGreatDoorTie.lean); close each card by the builder's one call (the guide's Derived/Test/ToyasCard.lean, 'card_holds'). Laid BY PROGRAM, IN A SANDBOX (cutbox-door.mjs). By AI agents, Wed Nov 11 2026. No macro, syntax, notation, axiom, sorry.
-/
import Derived.Test.YtcdlknpnfnggfaaGreatDoorRows
import GoSem.ClaimSeven
namespace Go.Proofs.YtcdlknpnfnggfaaGreatDoor
namespace Rows

/-- THE TIED CARD OF 'laws.FnLieKey'. -/
def fnLieKeyCard : Claim7 := { stood := { row := fnLieKeyRow, standIns := [], harness := (true, "aa1ce13d317d273ea12f2c18bacf10c94ea1d9430e3d23bf173a3667a1ff2921"), looks := false }, kinds := [], alts := [], goes := true, laidByText := true, laidKinds := [.data, .sentinel, .sentinel, .pinned], laidTests := true, laidLooks := .later }
def FnLieKeyCardSaid : Prop := Claim7.holds Tryz.pinned (.plain (OpenSpec.ofChange fnLieKeySpec)) fnLieKeyCard

/-- THE SECOND FORM's CARD OF 'laws.FnLieKey'. -/
def fnLieKeyUptoCard : Claim7 := { stood := { row := fnLieKeyUptoRow, standIns := [], harness := (true, "aa1ce13d317d273ea12f2c18bacf10c94ea1d9430e3d23bf173a3667a1ff2921"), looks := false }, kinds := [], alts := [], goes := true, laidByText := true, laidKinds := [.data, .sentinel, .sentinel, .pinned], laidTests := true, laidLooks := .later }
def FnLieKeyUptoCardSaid : Prop := Claim7.holds Tryz.pinned (.plain (OpenSpec.upto fnLieKeySpec)) fnLieKeyUptoCard
end Rows
end Go.Proofs.YtcdlknpnfnggfaaGreatDoor
