/-
  DERIVED. GIVEN WITH THE SEED: THE CARDS: each row of YtnepkmbknoanjaaDoorRows.lean that lists a variable, with what it lists TIED to the program's text (the seventh form; the later family's looks); each row that meets fmt, with fmt's text TOLD by the authors' own Lean function (tested against real Go, not proved from fmt's source: count such statements apart). THE CARD IS WHAT COUNTS. Prove the row's statement (the work); the ties are given (YtnepkmbknoanjaaDoorTie.lean); close each card by the builder's one call (the guide's Derived/Test/ToyasCard.lean, 'card_holds'). Laid BY PROGRAM, IN A SANDBOX (cutbox-door.mjs). By AI agents, Wed Nov 11 2026. No macro, syntax, notation, axiom, sorry.
-/
import Derived.Test.YtnepkmbknoanjaaDoorRows
import GoSem.ClaimSeven
namespace Go.Proofs.YtnepkmbknoanjaaDoor
namespace Rows

/-- THE TIED CARD OF 'laws.FnExactCopyNodes'. -/
def fnExactCopyNodesCard : Claim7 := { stood := { row := fnExactCopyNodesRow, standIns := [], harness := (true, "a5119bbbb6d5407208221cc7bb5bca30745c336c382231ccadfad53698d79a83"), looks := false }, kinds := [], alts := [], laidByText := true, laidKinds := [.data, .pinned], laidTests := true, laidLooks := .later }
def FnExactCopyNodesCardSaid : Prop := Claim7.holds Tryd.pinned (.plain (OpenSpec.ofChange fnExactCopyNodesSpec)) fnExactCopyNodesCard

/-- THE SECOND FORM's CARD OF 'laws.FnExactCopyNodes'. -/
def fnExactCopyNodesUptoCard : Claim7 := { stood := { row := fnExactCopyNodesUptoRow, standIns := [], harness := (true, "a5119bbbb6d5407208221cc7bb5bca30745c336c382231ccadfad53698d79a83"), looks := false }, kinds := [], alts := [], laidByText := true, laidKinds := [.data, .pinned], laidTests := true, laidLooks := .later }
def FnExactCopyNodesUptoCardSaid : Prop := Claim7.holds Tryd.pinned (.plain (OpenSpec.upto fnExactCopyNodesSpec)) fnExactCopyNodesUptoCard
end Rows
end Go.Proofs.YtnepkmbknoanjaaDoor
