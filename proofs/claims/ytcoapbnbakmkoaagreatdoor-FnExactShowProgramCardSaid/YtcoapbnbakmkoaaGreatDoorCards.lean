/-
  DERIVED. GIVEN WITH THE SEED: THE CARDS: each row of YtcoapbnbakmkoaaGreatDoorRows.lean that lists a variable, with what it lists TIED to the program's text (the seventh form; the later family's looks); each row that meets fmt, with fmt's text TOLD by the authors' own Lean function (tested against real Go, not proved from fmt's source: count such statements apart). THE CARD IS WHAT COUNTS. Prove the row's statement (the work); the ties are given (YtcoapbnbakmkoaaGreatDoorTie.lean); close each card by the builder's one call (the guide's Derived/Test/ToyasCard.lean, 'card_holds'). Laid BY PROGRAM, IN A SANDBOX (cutbox-door.mjs). By AI agents, Wed Nov 11 2026. No macro, syntax, notation, axiom, sorry.
-/
import Derived.Test.YtcoapbnbakmkoaaGreatDoorRows
import GoSem.ClaimSeven
namespace Go.Proofs.YtcoapbnbakmkoaaGreatDoor
namespace Rows

/-- THE TIED CARD OF 'laws.FnExactVarsOf'. -/
def fnExactVarsOfCard : Claim7 := { stood := { row := fnExactVarsOfRow, standIns := [], harness := (true, "e9e41c93fd4f62bf729b5123a91505229a4bf928619192b3b79a4693c35dcb34"), looks := false }, kinds := [], alts := [], laidByText := true, laidKinds := [.data, .pinned], laidTests := true, laidLooks := .later }
def FnExactVarsOfCardSaid : Prop := Claim7.holds Tryz.pinned (.plain (OpenSpec.ofChange fnExactVarsOfSpec)) fnExactVarsOfCard

/-- THE TIED CARD OF 'laws.FnExactShowStep'. -/
def fnExactShowStepCard : Claim7 := { stood := { row := fnExactShowStepRow, standIns := [], harness := (true, "e9e41c93fd4f62bf729b5123a91505229a4bf928619192b3b79a4693c35dcb34"), looks := false }, kinds := [], alts := [], laidByText := true, laidKinds := [.data, .data, .data, .data, .pinned], laidTests := true, laidLooks := .later }
def FnExactShowStepCardSaid : Prop := Claim7.holds Tryz.pinned (.plain (OpenSpec.ofChange fnExactShowStepSpec)) fnExactShowStepCard

/-- THE TIED CARD OF 'laws.FnExactShowProgram'. -/
def fnExactShowProgramCard : Claim7 := { stood := { row := fnExactShowProgramRow, standIns := [], harness := (true, "e9e41c93fd4f62bf729b5123a91505229a4bf928619192b3b79a4693c35dcb34"), looks := false }, kinds := [], alts := [], laidByText := true, laidKinds := [.data, .data, .data, .data, .pinned], laidTests := true, laidLooks := .later }
def FnExactShowProgramCardSaid : Prop := Claim7.holds Tryz.pinned (.plain (OpenSpec.ofChange fnExactShowProgramSpec)) fnExactShowProgramCard

/-- THE TIED CARD OF 'laws.FnExactShowValue'. -/
def fnExactShowValueCard : Claim7 := { stood := { row := fnExactShowValueRow, standIns := [], harness := (true, "e9e41c93fd4f62bf729b5123a91505229a4bf928619192b3b79a4693c35dcb34"), looks := false }, kinds := [], alts := [], laidByText := true, laidKinds := [.data, .data, .data, .data, .pinned], laidTests := true, laidLooks := .later }
def FnExactShowValueCardSaid : Prop := Claim7.holds Tryz.pinned (.plain (OpenSpec.ofChange fnExactShowValueSpec)) fnExactShowValueCard

/-- THE TIED CARD OF 'laws.FnExactUnder'. -/
def fnExactUnderCard : Claim7 := { stood := { row := fnExactUnderRow, standIns := [], harness := (true, "e9e41c93fd4f62bf729b5123a91505229a4bf928619192b3b79a4693c35dcb34"), looks := false }, kinds := [], alts := [], laidByText := true, laidKinds := [.data, .pinned], laidTests := true, laidLooks := .later }
def FnExactUnderCardSaid : Prop := Claim7.holds Tryz.pinned (.plain (OpenSpec.ofChange fnExactUnderSpec)) fnExactUnderCard

/-- THE TIED CARD OF 'laws.FnExactUsesOf'. -/
def fnExactUsesOfCard : Claim7 := { stood := { row := fnExactUsesOfRow, standIns := [], harness := (true, "e9e41c93fd4f62bf729b5123a91505229a4bf928619192b3b79a4693c35dcb34"), looks := false }, kinds := [], alts := [], laidByText := true, laidKinds := [.data, .pinned], laidTests := true, laidLooks := .later }
def FnExactUsesOfCardSaid : Prop := Claim7.holds Tryz.pinned (.plain (OpenSpec.ofChange fnExactUsesOfSpec)) fnExactUsesOfCard

/-- THE SECOND FORM's CARD OF 'laws.FnExactVarsOf'. -/
def fnExactVarsOfUptoCard : Claim7 := { stood := { row := fnExactVarsOfUptoRow, standIns := [], harness := (true, "e9e41c93fd4f62bf729b5123a91505229a4bf928619192b3b79a4693c35dcb34"), looks := false }, kinds := [], alts := [], laidByText := true, laidKinds := [.data, .pinned], laidTests := true, laidLooks := .later }
def FnExactVarsOfUptoCardSaid : Prop := Claim7.holds Tryz.pinned (.plain (OpenSpec.upto fnExactVarsOfSpec)) fnExactVarsOfUptoCard

/-- THE SECOND FORM's CARD OF 'laws.FnExactShowStep'. -/
def fnExactShowStepUptoCard : Claim7 := { stood := { row := fnExactShowStepUptoRow, standIns := [], harness := (true, "e9e41c93fd4f62bf729b5123a91505229a4bf928619192b3b79a4693c35dcb34"), looks := false }, kinds := [], alts := [], laidByText := true, laidKinds := [.data, .data, .data, .data, .pinned], laidTests := true, laidLooks := .later }
def FnExactShowStepUptoCardSaid : Prop := Claim7.holds Tryz.pinned (.plain (OpenSpec.upto fnExactShowStepSpec)) fnExactShowStepUptoCard

/-- THE SECOND FORM's CARD OF 'laws.FnExactShowProgram'. -/
def fnExactShowProgramUptoCard : Claim7 := { stood := { row := fnExactShowProgramUptoRow, standIns := [], harness := (true, "e9e41c93fd4f62bf729b5123a91505229a4bf928619192b3b79a4693c35dcb34"), looks := false }, kinds := [], alts := [], laidByText := true, laidKinds := [.data, .data, .data, .data, .pinned], laidTests := true, laidLooks := .later }
def FnExactShowProgramUptoCardSaid : Prop := Claim7.holds Tryz.pinned (.plain (OpenSpec.upto fnExactShowProgramSpec)) fnExactShowProgramUptoCard

/-- THE SECOND FORM's CARD OF 'laws.FnExactShowValue'. -/
def fnExactShowValueUptoCard : Claim7 := { stood := { row := fnExactShowValueUptoRow, standIns := [], harness := (true, "e9e41c93fd4f62bf729b5123a91505229a4bf928619192b3b79a4693c35dcb34"), looks := false }, kinds := [], alts := [], laidByText := true, laidKinds := [.data, .data, .data, .data, .pinned], laidTests := true, laidLooks := .later }
def FnExactShowValueUptoCardSaid : Prop := Claim7.holds Tryz.pinned (.plain (OpenSpec.upto fnExactShowValueSpec)) fnExactShowValueUptoCard

/-- THE SECOND FORM's CARD OF 'laws.FnExactUnder'. -/
def fnExactUnderUptoCard : Claim7 := { stood := { row := fnExactUnderUptoRow, standIns := [], harness := (true, "e9e41c93fd4f62bf729b5123a91505229a4bf928619192b3b79a4693c35dcb34"), looks := false }, kinds := [], alts := [], laidByText := true, laidKinds := [.data, .pinned], laidTests := true, laidLooks := .later }
def FnExactUnderUptoCardSaid : Prop := Claim7.holds Tryz.pinned (.plain (OpenSpec.upto fnExactUnderSpec)) fnExactUnderUptoCard

/-- THE SECOND FORM's CARD OF 'laws.FnExactUsesOf'. -/
def fnExactUsesOfUptoCard : Claim7 := { stood := { row := fnExactUsesOfUptoRow, standIns := [], harness := (true, "e9e41c93fd4f62bf729b5123a91505229a4bf928619192b3b79a4693c35dcb34"), looks := false }, kinds := [], alts := [], laidByText := true, laidKinds := [.data, .pinned], laidTests := true, laidLooks := .later }
def FnExactUsesOfUptoCardSaid : Prop := Claim7.holds Tryz.pinned (.plain (OpenSpec.upto fnExactUsesOfSpec)) fnExactUsesOfUptoCard
end Rows
end Go.Proofs.YtcoapbnbakmkoaaGreatDoor
