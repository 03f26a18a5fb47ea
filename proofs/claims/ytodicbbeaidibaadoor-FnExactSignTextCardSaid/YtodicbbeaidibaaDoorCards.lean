/-
  DERIVED. GIVEN WITH THE SEED: THE CARDS: each row of YtodicbbeaidibaaDoorRows.lean that lists a variable, with what it lists TIED to the program's text (the seventh form; the later family's looks); each row that meets fmt, with fmt's text TOLD by the authors' own Lean function (tested against real Go, not proved from fmt's source: count such statements apart). THE CARD IS WHAT COUNTS. Prove the row's statement (the work); the ties are given (YtodicbbeaidibaaDoorTie.lean); close each card by the builder's one call (the guide's Derived/Test/ToyasCard.lean, 'card_holds'). Laid BY PROGRAM, IN A SANDBOX (cutbox-door.mjs). By AI agents, Wed Nov 11 2026. No macro, syntax, notation, axiom, sorry.
-/
import Derived.Test.YtodicbbeaidibaaDoorRows
import GoSem.ClaimSeven
namespace Go.Proofs.YtodicbbeaidibaaDoor
namespace Rows

/-- THE TIED CARD OF 'laws.FnExactDecimal'. -/
def fnExactDecimalCard : Claim7 := { stood := { row := fnExactDecimalRow, standIns := [], harness := (true, "598e90ed91bc48814bbca0bb2eb0fce6c51f6c266311f0667c2f2c46b033bdb1"), looks := false }, kinds := [], alts := [], laidByText := true, laidKinds := [.data, .data, .data], laidTests := true, laidLooks := .later }
def FnExactDecimalCardSaid : Prop := Claim7.holds Tryd.pinned (.plain (OpenSpec.ofChange fnExactDecimalSpec)) fnExactDecimalCard

/-- THE TIED CARD OF 'laws.FnExactKeyWord'. -/
def fnExactKeyWordCard : Claim7 := { stood := { row := fnExactKeyWordRow, standIns := [], harness := (true, "598e90ed91bc48814bbca0bb2eb0fce6c51f6c266311f0667c2f2c46b033bdb1"), looks := false }, kinds := [], alts := [], laidByText := true, laidKinds := [.data, .pinned], laidTests := true, laidLooks := .later }
def FnExactKeyWordCardSaid : Prop := Claim7.holds Tryd.pinned (.plain (OpenSpec.ofChange fnExactKeyWordSpec)) fnExactKeyWordCard

/-- THE TIED CARD OF 'laws.FnExactNameOk'. -/
def fnExactNameOkCard : Claim7 := { stood := { row := fnExactNameOkRow, standIns := [], harness := (true, "598e90ed91bc48814bbca0bb2eb0fce6c51f6c266311f0667c2f2c46b033bdb1"), looks := false }, kinds := [], alts := [], laidByText := true, laidKinds := [.data, .pinned], laidTests := true, laidLooks := .later }
def FnExactNameOkCardSaid : Prop := Claim7.holds Tryd.pinned (.plain (OpenSpec.ofChange fnExactNameOkSpec)) fnExactNameOkCard

/-- THE TIED CARD OF 'laws.FnExactSignText'. -/
def fnExactSignTextCard : Claim7 := { stood := { row := fnExactSignTextRow, standIns := [], harness := (true, "598e90ed91bc48814bbca0bb2eb0fce6c51f6c266311f0667c2f2c46b033bdb1"), looks := false }, kinds := [], alts := [], laidByText := true, laidKinds := [.data, .data, .data], laidTests := true, laidLooks := .later }
def FnExactSignTextCardSaid : Prop := Claim7.holds Tryd.pinned (.plain (OpenSpec.ofChange fnExactSignTextSpec)) fnExactSignTextCard

/-- THE TIED CARD OF 'laws.FnExactSignsOf'. -/
def fnExactSignsOfCard : Claim7 := { stood := { row := fnExactSignsOfRow, standIns := [], harness := (true, "598e90ed91bc48814bbca0bb2eb0fce6c51f6c266311f0667c2f2c46b033bdb1"), looks := false }, kinds := [], alts := [], laidByText := true, laidKinds := [.data, .pinned], laidTests := true, laidLooks := .later }
def FnExactSignsOfCardSaid : Prop := Claim7.holds Tryd.pinned (.plain (OpenSpec.ofChange fnExactSignsOfSpec)) fnExactSignsOfCard

/-- THE SECOND FORM's CARD OF 'laws.FnExactDecimal'. -/
def fnExactDecimalUptoCard : Claim7 := { stood := { row := fnExactDecimalUptoRow, standIns := [], harness := (true, "598e90ed91bc48814bbca0bb2eb0fce6c51f6c266311f0667c2f2c46b033bdb1"), looks := false }, kinds := [], alts := [], laidByText := true, laidKinds := [.data, .data, .data], laidTests := true, laidLooks := .later }
def FnExactDecimalUptoCardSaid : Prop := Claim7.holds Tryd.pinned (.plain (OpenSpec.upto fnExactDecimalSpec)) fnExactDecimalUptoCard

/-- THE SECOND FORM's CARD OF 'laws.FnExactKeyWord'. -/
def fnExactKeyWordUptoCard : Claim7 := { stood := { row := fnExactKeyWordUptoRow, standIns := [], harness := (true, "598e90ed91bc48814bbca0bb2eb0fce6c51f6c266311f0667c2f2c46b033bdb1"), looks := false }, kinds := [], alts := [], laidByText := true, laidKinds := [.data, .pinned], laidTests := true, laidLooks := .later }
def FnExactKeyWordUptoCardSaid : Prop := Claim7.holds Tryd.pinned (.plain (OpenSpec.upto fnExactKeyWordSpec)) fnExactKeyWordUptoCard

/-- THE SECOND FORM's CARD OF 'laws.FnExactNameOk'. -/
def fnExactNameOkUptoCard : Claim7 := { stood := { row := fnExactNameOkUptoRow, standIns := [], harness := (true, "598e90ed91bc48814bbca0bb2eb0fce6c51f6c266311f0667c2f2c46b033bdb1"), looks := false }, kinds := [], alts := [], laidByText := true, laidKinds := [.data, .pinned], laidTests := true, laidLooks := .later }
def FnExactNameOkUptoCardSaid : Prop := Claim7.holds Tryd.pinned (.plain (OpenSpec.upto fnExactNameOkSpec)) fnExactNameOkUptoCard

/-- THE SECOND FORM's CARD OF 'laws.FnExactSignText'. -/
def fnExactSignTextUptoCard : Claim7 := { stood := { row := fnExactSignTextUptoRow, standIns := [], harness := (true, "598e90ed91bc48814bbca0bb2eb0fce6c51f6c266311f0667c2f2c46b033bdb1"), looks := false }, kinds := [], alts := [], laidByText := true, laidKinds := [.data, .data, .data], laidTests := true, laidLooks := .later }
def FnExactSignTextUptoCardSaid : Prop := Claim7.holds Tryd.pinned (.plain (OpenSpec.upto fnExactSignTextSpec)) fnExactSignTextUptoCard

/-- THE SECOND FORM's CARD OF 'laws.FnExactSignsOf'. -/
def fnExactSignsOfUptoCard : Claim7 := { stood := { row := fnExactSignsOfUptoRow, standIns := [], harness := (true, "598e90ed91bc48814bbca0bb2eb0fce6c51f6c266311f0667c2f2c46b033bdb1"), looks := false }, kinds := [], alts := [], laidByText := true, laidKinds := [.data, .pinned], laidTests := true, laidLooks := .later }
def FnExactSignsOfUptoCardSaid : Prop := Claim7.holds Tryd.pinned (.plain (OpenSpec.upto fnExactSignsOfSpec)) fnExactSignsOfUptoCard
end Rows
end Go.Proofs.YtodicbbeaidibaaDoor
