/-
  DERIVED. GIVEN WITH THE SEED: THE CARDS: each row of YtmdpggibcjkfoaaDoorRows.lean that lists a variable, with what it lists TIED to the program's text (the seventh form; the later family's looks); each row that meets fmt, with fmt's text TOLD by the authors' own Lean function (tested against real Go, not proved from fmt's source: count such statements apart). THE CARD IS WHAT COUNTS. Prove the row's statement (the work); the ties are given (YtmdpggibcjkfoaaDoorTie.lean); close each card by the builder's one call (the guide's Derived/Test/ToyasCard.lean, 'card_holds'). Laid BY PROGRAM, IN A SANDBOX (cutbox-door.mjs). By AI agents, Wed Nov 11 2026. No macro, syntax, notation, axiom, sorry.
-/
import Derived.Test.YtmdpggibcjkfoaaDoorRows
import GoSem.ClaimSeven
namespace Go.Proofs.YtmdpggibcjkfoaaDoor
namespace Rows

/-- THE TIED CARD OF 'laws.FnExactNodeOk'. -/
def fnExactNodeOkCard : Claim7 := { stood := { row := fnExactNodeOkRow, standIns := [], harness := (true, "1c1065bf1f72a10d891e9be10998de40eeb4dd10b1c753a56892c12dd6b864d0"), looks := true }, kinds := [], alts := [], laidByText := true, laidKinds := [.data, .pinned], laidTests := true, laidLooks := .later }
def FnExactNodeOkCardSaid : Prop := Claim7.holds Tryd.pinned (.plain (OpenSpec.ofChange fnExactNodeOkSpec)) fnExactNodeOkCard

/-- THE TIED CARD OF 'laws.FnExactReadDecimal'. -/
def fnExactReadDecimalCard : Claim7 := { stood := { row := fnExactReadDecimalRow, standIns := [], harness := (true, "1c1065bf1f72a10d891e9be10998de40eeb4dd10b1c753a56892c12dd6b864d0"), looks := true }, kinds := [], alts := [], laidByText := true, laidKinds := [.data, .data, .data, .sentinel, .sentinel], laidTests := true, laidLooks := .later }
def FnExactReadDecimalCardSaid : Prop := Claim7.holds Tryd.pinned (.plain (OpenSpec.ofChange fnExactReadDecimalSpec)) fnExactReadDecimalCard

/-- THE TIED CARD OF 'laws.FnExactDeepOf'. -/
def fnExactDeepOfCard : Claim7 := { stood := { row := fnExactDeepOfRow, standIns := [], harness := (true, "1c1065bf1f72a10d891e9be10998de40eeb4dd10b1c753a56892c12dd6b864d0"), looks := true }, kinds := [], alts := [], laidByText := true, laidKinds := [.data, .pinned], laidTests := true, laidLooks := .later }
def FnExactDeepOfCardSaid : Prop := Claim7.holds Tryd.pinned (.plain (OpenSpec.ofChange fnExactDeepOfSpec)) fnExactDeepOfCard

/-- THE TIED CARD OF 'laws.FnNumbers'. -/
def fnNumbersCard : Claim7 := { stood := { row := fnNumbersRow, standIns := [], harness := (true, "1c1065bf1f72a10d891e9be10998de40eeb4dd10b1c753a56892c12dd6b864d0"), looks := true }, kinds := [], alts := [], laidByText := true, laidKinds := [.data, .data, .data, .sentinel, .sentinel], laidTests := true, laidLooks := .later }
def FnNumbersCardSaid : Prop := Claim7.holds Tryd.pinned (.plain (OpenSpec.ofChange fnNumbersSpec)) fnNumbersCard

/-- THE TIED CARD OF 'laws.FnExactSameTree'. -/
def fnExactSameTreeCard : Claim7 := { stood := { row := fnExactSameTreeRow, standIns := [], harness := (true, "1c1065bf1f72a10d891e9be10998de40eeb4dd10b1c753a56892c12dd6b864d0"), looks := true }, kinds := [], alts := [], laidByText := true, laidKinds := [.data, .pinned], laidTests := true, laidLooks := .later }
def FnExactSameTreeCardSaid : Prop := Claim7.holds Tryd.pinned (.plain (OpenSpec.ofChange fnExactSameTreeSpec)) fnExactSameTreeCard

/-- THE TIED CARD OF 'laws.FnExactSameProgram'. -/
def fnExactSameProgramCard : Claim7 := { stood := { row := fnExactSameProgramRow, standIns := [], harness := (true, "1c1065bf1f72a10d891e9be10998de40eeb4dd10b1c753a56892c12dd6b864d0"), looks := true }, kinds := [], alts := [], laidByText := true, laidKinds := [.data, .pinned], laidTests := true, laidLooks := .later }
def FnExactSameProgramCardSaid : Prop := Claim7.holds Tryd.pinned (.plain (OpenSpec.ofChange fnExactSameProgramSpec)) fnExactSameProgramCard

/-- THE TIED CARD OF 'laws.FnExactProgramOk'. -/
def fnExactProgramOkCard : Claim7 := { stood := { row := fnExactProgramOkRow, standIns := [], harness := (true, "1c1065bf1f72a10d891e9be10998de40eeb4dd10b1c753a56892c12dd6b864d0"), looks := true }, kinds := [], alts := [], laidByText := true, laidKinds := [.data, .pinned], laidTests := true, laidLooks := .later }
def FnExactProgramOkCardSaid : Prop := Claim7.holds Tryd.pinned (.plain (OpenSpec.ofChange fnExactProgramOkSpec)) fnExactProgramOkCard

/-- THE SECOND FORM's CARD OF 'laws.FnExactNodeOk'. -/
def fnExactNodeOkUptoCard : Claim7 := { stood := { row := fnExactNodeOkUptoRow, standIns := [], harness := (true, "1c1065bf1f72a10d891e9be10998de40eeb4dd10b1c753a56892c12dd6b864d0"), looks := true }, kinds := [], alts := [], laidByText := true, laidKinds := [.data, .pinned], laidTests := true, laidLooks := .later }
def FnExactNodeOkUptoCardSaid : Prop := Claim7.holds Tryd.pinned (.plain (OpenSpec.upto fnExactNodeOkSpec)) fnExactNodeOkUptoCard

/-- THE SECOND FORM's CARD OF 'laws.FnExactReadDecimal'. -/
def fnExactReadDecimalUptoCard : Claim7 := { stood := { row := fnExactReadDecimalUptoRow, standIns := [], harness := (true, "1c1065bf1f72a10d891e9be10998de40eeb4dd10b1c753a56892c12dd6b864d0"), looks := true }, kinds := [], alts := [], laidByText := true, laidKinds := [.data, .data, .data, .sentinel, .sentinel], laidTests := true, laidLooks := .later }
def FnExactReadDecimalUptoCardSaid : Prop := Claim7.holds Tryd.pinned (.plain (OpenSpec.upto fnExactReadDecimalSpec)) fnExactReadDecimalUptoCard

/-- THE SECOND FORM's CARD OF 'laws.FnExactDeepOf'. -/
def fnExactDeepOfUptoCard : Claim7 := { stood := { row := fnExactDeepOfUptoRow, standIns := [], harness := (true, "1c1065bf1f72a10d891e9be10998de40eeb4dd10b1c753a56892c12dd6b864d0"), looks := true }, kinds := [], alts := [], laidByText := true, laidKinds := [.data, .pinned], laidTests := true, laidLooks := .later }
def FnExactDeepOfUptoCardSaid : Prop := Claim7.holds Tryd.pinned (.plain (OpenSpec.upto fnExactDeepOfSpec)) fnExactDeepOfUptoCard

/-- THE SECOND FORM's CARD OF 'laws.FnNumbers'. -/
def fnNumbersUptoCard : Claim7 := { stood := { row := fnNumbersUptoRow, standIns := [], harness := (true, "1c1065bf1f72a10d891e9be10998de40eeb4dd10b1c753a56892c12dd6b864d0"), looks := true }, kinds := [], alts := [], laidByText := true, laidKinds := [.data, .data, .data, .sentinel, .sentinel], laidTests := true, laidLooks := .later }
def FnNumbersUptoCardSaid : Prop := Claim7.holds Tryd.pinned (.plain (OpenSpec.upto fnNumbersSpec)) fnNumbersUptoCard

/-- THE SECOND FORM's CARD OF 'laws.FnExactSameTree'. -/
def fnExactSameTreeUptoCard : Claim7 := { stood := { row := fnExactSameTreeUptoRow, standIns := [], harness := (true, "1c1065bf1f72a10d891e9be10998de40eeb4dd10b1c753a56892c12dd6b864d0"), looks := true }, kinds := [], alts := [], laidByText := true, laidKinds := [.data, .pinned], laidTests := true, laidLooks := .later }
def FnExactSameTreeUptoCardSaid : Prop := Claim7.holds Tryd.pinned (.plain (OpenSpec.upto fnExactSameTreeSpec)) fnExactSameTreeUptoCard

/-- THE SECOND FORM's CARD OF 'laws.FnExactSameProgram'. -/
def fnExactSameProgramUptoCard : Claim7 := { stood := { row := fnExactSameProgramUptoRow, standIns := [], harness := (true, "1c1065bf1f72a10d891e9be10998de40eeb4dd10b1c753a56892c12dd6b864d0"), looks := true }, kinds := [], alts := [], laidByText := true, laidKinds := [.data, .pinned], laidTests := true, laidLooks := .later }
def FnExactSameProgramUptoCardSaid : Prop := Claim7.holds Tryd.pinned (.plain (OpenSpec.upto fnExactSameProgramSpec)) fnExactSameProgramUptoCard

/-- THE SECOND FORM's CARD OF 'laws.FnExactProgramOk'. -/
def fnExactProgramOkUptoCard : Claim7 := { stood := { row := fnExactProgramOkUptoRow, standIns := [], harness := (true, "1c1065bf1f72a10d891e9be10998de40eeb4dd10b1c753a56892c12dd6b864d0"), looks := true }, kinds := [], alts := [], laidByText := true, laidKinds := [.data, .pinned], laidTests := true, laidLooks := .later }
def FnExactProgramOkUptoCardSaid : Prop := Claim7.holds Tryd.pinned (.plain (OpenSpec.upto fnExactProgramOkSpec)) fnExactProgramOkUptoCard
end Rows
end Go.Proofs.YtmdpggibcjkfoaaDoor
