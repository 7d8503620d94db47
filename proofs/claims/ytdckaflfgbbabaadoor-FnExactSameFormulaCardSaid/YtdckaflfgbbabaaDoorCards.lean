/-
  DERIVED. GIVEN WITH THE SEED: THE CARDS: each row of YtdckaflfgbbabaaDoorRows.lean that lists a variable, with what it lists TIED to the program's text (the seventh form; the later family's looks); each row that meets fmt, with fmt's text TOLD by the authors' own Lean function (tested against real Go, not proved from fmt's source: count such statements apart). THE CARD IS WHAT COUNTS. Prove the row's statement (the work); the ties are given (YtdckaflfgbbabaaDoorTie.lean); close each card by the builder's one call (the guide's Derived/Test/ToyasCard.lean, 'card_holds'). Laid BY PROGRAM, IN A SANDBOX (cutbox-door.mjs). By AI agents, Wed Nov 11 2026. No macro, syntax, notation, axiom, sorry.
-/
import Derived.Test.YtdckaflfgbbabaaDoorRows
import GoSem.ClaimSeven
namespace Go.Proofs.YtdckaflfgbbabaaDoor
namespace Rows

/-- THE TIED CARD OF 'laws.FnExactFormatFormula'. -/
def fnExactFormatFormulaCard : Claim7 := { stood := { row := fnExactFormatFormulaRow, standIns := [], harness := (true, "833249fbf78a6b795e3ceceab2c4d464578c1f453884316def6f2d6cdbdc597b"), looks := false }, kinds := [], alts := [], laidByText := true, laidKinds := [.data, .data, .data], laidTests := true, laidLooks := .later }
def FnExactFormatFormulaCardSaid : Prop := Claim7.holds Tryd.pinned (.plain (OpenSpec.ofChange fnExactFormatFormulaSpec)) fnExactFormatFormulaCard

/-- THE TIED CARD OF 'laws.FnExactSameFormula'. -/
def fnExactSameFormulaCard : Claim7 := { stood := { row := fnExactSameFormulaRow, standIns := [], harness := (true, "833249fbf78a6b795e3ceceab2c4d464578c1f453884316def6f2d6cdbdc597b"), looks := false }, kinds := [], alts := [], laidByText := true, laidKinds := [.data, .data, .data], laidTests := true, laidLooks := .later }
def FnExactSameFormulaCardSaid : Prop := Claim7.holds Tryd.pinned (.plain (OpenSpec.ofChange fnExactSameFormulaSpec)) fnExactSameFormulaCard

/-- THE SECOND FORM's CARD OF 'laws.FnExactFormatFormula'. -/
def fnExactFormatFormulaUptoCard : Claim7 := { stood := { row := fnExactFormatFormulaUptoRow, standIns := [], harness := (true, "833249fbf78a6b795e3ceceab2c4d464578c1f453884316def6f2d6cdbdc597b"), looks := false }, kinds := [], alts := [], laidByText := true, laidKinds := [.data, .data, .data], laidTests := true, laidLooks := .later }
def FnExactFormatFormulaUptoCardSaid : Prop := Claim7.holds Tryd.pinned (.plain (OpenSpec.upto fnExactFormatFormulaSpec)) fnExactFormatFormulaUptoCard

/-- THE SECOND FORM's CARD OF 'laws.FnExactSameFormula'. -/
def fnExactSameFormulaUptoCard : Claim7 := { stood := { row := fnExactSameFormulaUptoRow, standIns := [], harness := (true, "833249fbf78a6b795e3ceceab2c4d464578c1f453884316def6f2d6cdbdc597b"), looks := false }, kinds := [], alts := [], laidByText := true, laidKinds := [.data, .data, .data], laidTests := true, laidLooks := .later }
def FnExactSameFormulaUptoCardSaid : Prop := Claim7.holds Tryd.pinned (.plain (OpenSpec.upto fnExactSameFormulaSpec)) fnExactSameFormulaUptoCard
end Rows
end Go.Proofs.YtdckaflfgbbabaaDoor
