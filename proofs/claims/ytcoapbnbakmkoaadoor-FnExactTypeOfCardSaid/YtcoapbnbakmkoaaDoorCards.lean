/-
  DERIVED. GIVEN WITH THE SEED: THE CARDS: each row of YtcoapbnbakmkoaaDoorRows.lean that lists a variable, with what it lists TIED to the program's text (the seventh form; the later family's looks); each row that meets fmt, with fmt's text TOLD by the authors' own Lean function (tested against real Go, not proved from fmt's source: count such statements apart). THE CARD IS WHAT COUNTS. Prove the row's statement (the work); the ties are given (YtcoapbnbakmkoaaDoorTie.lean); close each card by the builder's one call (the guide's Derived/Test/ToyasCard.lean, 'card_holds'). Laid BY PROGRAM, IN A SANDBOX (cutbox-door.mjs). By AI agents, Wed Nov 11 2026. No macro, syntax, notation, axiom, sorry.
-/
import Derived.Test.YtcoapbnbakmkoaaDoorRows
import GoSem.ClaimSeven
namespace Go.Proofs.YtcoapbnbakmkoaaDoor
namespace Rows

/-- THE TIED CARD OF 'laws.FnSigns'. -/
def fnSignsCard : Claim7 := { stood := { row := fnSignsRow, standIns := [], harness := (true, "2e38271586ec63028ece8b5ba072b4e45601ec9baff8dc84869ba8293de79d2c"), looks := false }, kinds := [], alts := [], laidByText := true, laidKinds := [.data, .data, .data, .data, .pinned], laidTests := true, laidLooks := .later }
def FnSignsCardSaid : Prop := Claim7.holds Tryd.pinned (.plain (OpenSpec.ofChange fnSignsSpec)) fnSignsCard

/-- THE TIED CARD OF 'laws.FnExactCopyNodes'. -/
def fnExactCopyNodesCard : Claim7 := { stood := { row := fnExactCopyNodesRow, standIns := [], harness := (true, "2e38271586ec63028ece8b5ba072b4e45601ec9baff8dc84869ba8293de79d2c"), looks := false }, kinds := [], alts := [], laidByText := true, laidKinds := [.data, .pinned], laidTests := true, laidLooks := .later }
def FnExactCopyNodesCardSaid : Prop := Claim7.holds Tryd.pinned (.plain (OpenSpec.ofChange fnExactCopyNodesSpec)) fnExactCopyNodesCard

/-- THE TIED CARD OF 'laws.FnExactTypeOf'. -/
def fnExactTypeOfCard : Claim7 := { stood := { row := fnExactTypeOfRow, standIns := [], harness := (true, "2e38271586ec63028ece8b5ba072b4e45601ec9baff8dc84869ba8293de79d2c"), looks := false }, kinds := [], alts := [], laidByText := true, laidKinds := [.data, .pinned], laidTests := true, laidLooks := .later }
def FnExactTypeOfCardSaid : Prop := Claim7.holds Tryd.pinned (.plain (OpenSpec.ofChange fnExactTypeOfSpec)) fnExactTypeOfCard

/-- THE SECOND FORM's CARD OF 'laws.FnSigns'. -/
def fnSignsUptoCard : Claim7 := { stood := { row := fnSignsUptoRow, standIns := [], harness := (true, "2e38271586ec63028ece8b5ba072b4e45601ec9baff8dc84869ba8293de79d2c"), looks := false }, kinds := [], alts := [], laidByText := true, laidKinds := [.data, .data, .data, .data, .pinned], laidTests := true, laidLooks := .later }
def FnSignsUptoCardSaid : Prop := Claim7.holds Tryd.pinned (.plain (OpenSpec.upto fnSignsSpec)) fnSignsUptoCard

/-- THE SECOND FORM's CARD OF 'laws.FnExactCopyNodes'. -/
def fnExactCopyNodesUptoCard : Claim7 := { stood := { row := fnExactCopyNodesUptoRow, standIns := [], harness := (true, "2e38271586ec63028ece8b5ba072b4e45601ec9baff8dc84869ba8293de79d2c"), looks := false }, kinds := [], alts := [], laidByText := true, laidKinds := [.data, .pinned], laidTests := true, laidLooks := .later }
def FnExactCopyNodesUptoCardSaid : Prop := Claim7.holds Tryd.pinned (.plain (OpenSpec.upto fnExactCopyNodesSpec)) fnExactCopyNodesUptoCard

/-- THE SECOND FORM's CARD OF 'laws.FnExactTypeOf'. -/
def fnExactTypeOfUptoCard : Claim7 := { stood := { row := fnExactTypeOfUptoRow, standIns := [], harness := (true, "2e38271586ec63028ece8b5ba072b4e45601ec9baff8dc84869ba8293de79d2c"), looks := false }, kinds := [], alts := [], laidByText := true, laidKinds := [.data, .pinned], laidTests := true, laidLooks := .later }
def FnExactTypeOfUptoCardSaid : Prop := Claim7.holds Tryd.pinned (.plain (OpenSpec.upto fnExactTypeOfSpec)) fnExactTypeOfUptoCard
end Rows
end Go.Proofs.YtcoapbnbakmkoaaDoor
