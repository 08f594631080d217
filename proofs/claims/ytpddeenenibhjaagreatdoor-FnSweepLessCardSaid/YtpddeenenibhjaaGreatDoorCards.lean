/-
  DERIVED. GIVEN WITH THE SEED: THE CARDS: each row of YtpddeenenibhjaaGreatDoorRows.lean that lists a variable, with what it lists TIED to the program's text (the seventh form; the later family's looks); each row that meets fmt, with fmt's text TOLD by the authors' own Lean function (tested against real Go, not proved from fmt's source: count such statements apart). THE CARD IS WHAT COUNTS. Prove the row's statement (the work); the ties are given (YtpddeenenibhjaaGreatDoorTie.lean); close each card by the builder's one call (the guide's Derived/Test/ToyasCard.lean, 'card_holds'). Laid BY PROGRAM, IN A SANDBOX (cutbox-door.mjs). By AI agents, Wed Nov 11 2026. No macro, syntax, notation, axiom, sorry.
-/
import Derived.Test.YtpddeenenibhjaaGreatDoorRows
import GoSem.ClaimSeven
namespace Go.Proofs.YtpddeenenibhjaaGreatDoor
namespace Rows

/-- THE TIED CARD OF 'laws.FnSweepBegin'. -/
def fnSweepBeginCard : Claim7 := { stood := { row := fnSweepBeginRow, standIns := [], harness := (true, "117b6ced9a67039dff78bdd2c556171dd388fd69be06c6693c6eeb660c377182"), looks := false }, kinds := [], alts := [], goes := true, laidByText := true, laidKinds := [.data, .sentinel, .sentinel, .pinned], laidTests := true, laidLooks := .later }
def FnSweepBeginCardSaid : Prop := Claim7.holds Tryz.pinned (.plain (OpenSpec.ofChange fnSweepBeginSpec)) fnSweepBeginCard

/-- THE TIED CARD OF 'laws.FnSweepKeep'. -/
def fnSweepKeepCard : Claim7 := { stood := { row := fnSweepKeepRow, standIns := [], harness := (true, "117b6ced9a67039dff78bdd2c556171dd388fd69be06c6693c6eeb660c377182"), looks := false }, kinds := [], alts := [], goes := true, laidByText := true, laidKinds := [.data, .sentinel, .sentinel, .pinned], laidTests := true, laidLooks := .later }
def FnSweepKeepCardSaid : Prop := Claim7.holds Tryz.pinned (.plain (OpenSpec.ofChange fnSweepKeepSpec)) fnSweepKeepCard

/-- THE TIED CARD OF 'laws.FnSweepLess'. -/
def fnSweepLessCard : Claim7 := { stood := { row := fnSweepLessRow, standIns := [], harness := (true, "117b6ced9a67039dff78bdd2c556171dd388fd69be06c6693c6eeb660c377182"), looks := false }, kinds := [], alts := [], goes := true, laidByText := true, laidKinds := [.data, .sentinel, .sentinel, .pinned], laidTests := true, laidLooks := .later }
def FnSweepLessCardSaid : Prop := Claim7.holds Tryz.pinned (.plain (OpenSpec.ofChange fnSweepLessSpec)) fnSweepLessCard

/-- THE TIED CARD OF 'laws.FnSweepNone'. -/
def fnSweepNoneCard : Claim7 := { stood := { row := fnSweepNoneRow, standIns := [], harness := (true, "117b6ced9a67039dff78bdd2c556171dd388fd69be06c6693c6eeb660c377182"), looks := false }, kinds := [], alts := [], goes := true, laidByText := true, laidKinds := [.data, .sentinel, .sentinel, .pinned], laidTests := true, laidLooks := .later }
def FnSweepNoneCardSaid : Prop := Claim7.holds Tryz.pinned (.plain (OpenSpec.ofChange fnSweepNoneSpec)) fnSweepNoneCard

/-- THE TIED CARD OF 'laws.FnSweepAll'. -/
def fnSweepAllCard : Claim7 := { stood := { row := fnSweepAllRow, standIns := [], harness := (true, "117b6ced9a67039dff78bdd2c556171dd388fd69be06c6693c6eeb660c377182"), looks := false }, kinds := [], alts := [], goes := true, laidByText := true, laidKinds := [.data, .sentinel, .sentinel, .pinned], laidTests := true, laidLooks := .later }
def FnSweepAllCardSaid : Prop := Claim7.holds Tryz.pinned (.plain (OpenSpec.ofChange fnSweepAllSpec)) fnSweepAllCard

/-- THE SECOND FORM's CARD OF 'laws.FnSweepBegin'. -/
def fnSweepBeginUptoCard : Claim7 := { stood := { row := fnSweepBeginUptoRow, standIns := [], harness := (true, "117b6ced9a67039dff78bdd2c556171dd388fd69be06c6693c6eeb660c377182"), looks := false }, kinds := [], alts := [], goes := true, laidByText := true, laidKinds := [.data, .sentinel, .sentinel, .pinned], laidTests := true, laidLooks := .later }
def FnSweepBeginUptoCardSaid : Prop := Claim7.holds Tryz.pinned (.plain (OpenSpec.upto fnSweepBeginSpec)) fnSweepBeginUptoCard

/-- THE SECOND FORM's CARD OF 'laws.FnSweepKeep'. -/
def fnSweepKeepUptoCard : Claim7 := { stood := { row := fnSweepKeepUptoRow, standIns := [], harness := (true, "117b6ced9a67039dff78bdd2c556171dd388fd69be06c6693c6eeb660c377182"), looks := false }, kinds := [], alts := [], goes := true, laidByText := true, laidKinds := [.data, .sentinel, .sentinel, .pinned], laidTests := true, laidLooks := .later }
def FnSweepKeepUptoCardSaid : Prop := Claim7.holds Tryz.pinned (.plain (OpenSpec.upto fnSweepKeepSpec)) fnSweepKeepUptoCard

/-- THE SECOND FORM's CARD OF 'laws.FnSweepLess'. -/
def fnSweepLessUptoCard : Claim7 := { stood := { row := fnSweepLessUptoRow, standIns := [], harness := (true, "117b6ced9a67039dff78bdd2c556171dd388fd69be06c6693c6eeb660c377182"), looks := false }, kinds := [], alts := [], goes := true, laidByText := true, laidKinds := [.data, .sentinel, .sentinel, .pinned], laidTests := true, laidLooks := .later }
def FnSweepLessUptoCardSaid : Prop := Claim7.holds Tryz.pinned (.plain (OpenSpec.upto fnSweepLessSpec)) fnSweepLessUptoCard

/-- THE SECOND FORM's CARD OF 'laws.FnSweepNone'. -/
def fnSweepNoneUptoCard : Claim7 := { stood := { row := fnSweepNoneUptoRow, standIns := [], harness := (true, "117b6ced9a67039dff78bdd2c556171dd388fd69be06c6693c6eeb660c377182"), looks := false }, kinds := [], alts := [], goes := true, laidByText := true, laidKinds := [.data, .sentinel, .sentinel, .pinned], laidTests := true, laidLooks := .later }
def FnSweepNoneUptoCardSaid : Prop := Claim7.holds Tryz.pinned (.plain (OpenSpec.upto fnSweepNoneSpec)) fnSweepNoneUptoCard

/-- THE SECOND FORM's CARD OF 'laws.FnSweepAll'. -/
def fnSweepAllUptoCard : Claim7 := { stood := { row := fnSweepAllUptoRow, standIns := [], harness := (true, "117b6ced9a67039dff78bdd2c556171dd388fd69be06c6693c6eeb660c377182"), looks := false }, kinds := [], alts := [], goes := true, laidByText := true, laidKinds := [.data, .sentinel, .sentinel, .pinned], laidTests := true, laidLooks := .later }
def FnSweepAllUptoCardSaid : Prop := Claim7.holds Tryz.pinned (.plain (OpenSpec.upto fnSweepAllSpec)) fnSweepAllUptoCard
end Rows
end Go.Proofs.YtpddeenenibhjaaGreatDoor
