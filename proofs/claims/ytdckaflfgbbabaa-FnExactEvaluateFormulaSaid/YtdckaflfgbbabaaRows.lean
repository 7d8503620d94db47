/-
  No cell of these rows narrows 'for every input' (looked for: loops, veiled, ifaces, maps, wideKeys, modest, calm, conditions, laid).
  DERIVED. THE GIVEN ROWS OF THIS SEAT. 10 by the template 'for every input the law returns true; each argument reads behind the call as it read before'; 0 by the template 'total and deterministic' (their statements: YtdckaflfgbbabaaTotals.lean).
  GIVEN WITH THE SEED: the statements are not yours to turn. If you find one false, say at which input.
  Laid BY PROGRAM, IN A SANDBOX (cutbox-rows.mjs): the forced cells as the released guide's own fill.sh prints them over the translation 793445a10f763d50… (all of the seat's roots in one cut). By AI agents, Wed Nov 11 2026. No macro, syntax, notation, axiom, sorry.
-/
import Derived.Test.YtdckaflfgbbabaaChecked
import GoSem.Claim
import GoSem.ClaimJoined
import GoSem.ClaimMapViews
import Derived.JoinedTies
import Derived.KernelRfl
namespace Go.Proofs.Ytdckaflfgbbabaa
/- THE CELL 'sum', in the pinned program and in every row, IS THE sha256 OF THE DUMP (.gsa) THAT YtdckaflfgbbabaaProg.lean LOADS. Nothing in Lean hashes anything: it is a label: what it is worth is what the hold of that sum in a sandbox is worth. -/
noncomputable def Try.pinned : Pinned := { name := "ytdckaflfgbbabaa", sum := "793445a10f763d5083967820fa26c86613f8d0dc3d246189377df8d78a38d7c4", checked := Try.checked }
namespace Rows
def none {H : Type} : Left H := { results := [], args := [] }

/-- 'laws.FnExactCountQuantifiers': WHATEVER THE INPUT: true; the input reads as it did. -/
def fnExactCountQuantifiersSpec : ChangeSpec := { name := "fnExactCountQuantifiers", fn := fun _ => fun
  | [d] => { results := [.lit (.bool true)], args := [d] }
  | _ => none }
def fnExactCountQuantifiersRow : OpenClaim := { program := "ytdckaflfgbbabaa", sum := "793445a10f763d5083967820fa26c86613f8d0dc3d246189377df8d78a38d7c4", func := "loop.example/g02079/laws.FnExactCountQuantifiers", spec := "fnExactCountQuantifiers", apart := false }
def FnExactCountQuantifiersSaid : Prop := fnExactCountQuantifiersRow.holds Try.pinned (OpenSpec.ofChange fnExactCountQuantifiersSpec)

/-- ITS FALSE NEIGHBOUR: 'it returns false'. Refute it at one input. -/
def fnExactCountQuantifiersWrong : ChangeSpec := { name := "fnExactCountQuantifiers", fn := fun _ => fun
  | [d] => { results := [.lit (.bool false)], args := [d] }
  | _ => none }
def FnExactCountQuantifiersWrongFalsely : Prop := fnExactCountQuantifiersRow.holds Try.pinned (OpenSpec.ofChange fnExactCountQuantifiersWrong)

/-- 'laws.FnExactIsFormula': WHATEVER THE INPUT: true; the input reads as it did. -/
def fnExactIsFormulaSpec : ChangeSpec := { name := "fnExactIsFormula", fn := fun _ => fun
  | [d] => { results := [.lit (.bool true)], args := [d] }
  | _ => none }
def fnExactIsFormulaRow : OpenClaim := { program := "ytdckaflfgbbabaa", sum := "793445a10f763d5083967820fa26c86613f8d0dc3d246189377df8d78a38d7c4", func := "loop.example/g02079/laws.FnExactIsFormula", spec := "fnExactIsFormula", apart := false }
def FnExactIsFormulaSaid : Prop := fnExactIsFormulaRow.holds Try.pinned (OpenSpec.ofChange fnExactIsFormulaSpec)

/-- ITS FALSE NEIGHBOUR: 'it returns false'. Refute it at one input. -/
def fnExactIsFormulaWrong : ChangeSpec := { name := "fnExactIsFormula", fn := fun _ => fun
  | [d] => { results := [.lit (.bool false)], args := [d] }
  | _ => none }
def FnExactIsFormulaWrongFalsely : Prop := fnExactIsFormulaRow.holds Try.pinned (OpenSpec.ofChange fnExactIsFormulaWrong)

/-- 'laws.FnExactIsExistential': WHATEVER THE INPUT: true; the input reads as it did. -/
def fnExactIsExistentialSpec : ChangeSpec := { name := "fnExactIsExistential", fn := fun _ => fun
  | [d] => { results := [.lit (.bool true)], args := [d] }
  | _ => none }
def fnExactIsExistentialRow : OpenClaim := { program := "ytdckaflfgbbabaa", sum := "793445a10f763d5083967820fa26c86613f8d0dc3d246189377df8d78a38d7c4", func := "loop.example/g02079/laws.FnExactIsExistential", spec := "fnExactIsExistential", apart := false }
def FnExactIsExistentialSaid : Prop := fnExactIsExistentialRow.holds Try.pinned (OpenSpec.ofChange fnExactIsExistentialSpec)

/-- ITS FALSE NEIGHBOUR: 'it returns false'. Refute it at one input. -/
def fnExactIsExistentialWrong : ChangeSpec := { name := "fnExactIsExistential", fn := fun _ => fun
  | [d] => { results := [.lit (.bool false)], args := [d] }
  | _ => none }
def FnExactIsExistentialWrongFalsely : Prop := fnExactIsExistentialRow.holds Try.pinned (OpenSpec.ofChange fnExactIsExistentialWrong)

/-- 'laws.FnExactIsOpenFree': WHATEVER THE INPUT: true; the input reads as it did. -/
def fnExactIsOpenFreeSpec : ChangeSpec := { name := "fnExactIsOpenFree", fn := fun _ => fun
  | [d] => { results := [.lit (.bool true)], args := [d] }
  | _ => none }
def fnExactIsOpenFreeRow : OpenClaim := { program := "ytdckaflfgbbabaa", sum := "793445a10f763d5083967820fa26c86613f8d0dc3d246189377df8d78a38d7c4", func := "loop.example/g02079/laws.FnExactIsOpenFree", spec := "fnExactIsOpenFree", apart := false }
def FnExactIsOpenFreeSaid : Prop := fnExactIsOpenFreeRow.holds Try.pinned (OpenSpec.ofChange fnExactIsOpenFreeSpec)

/-- ITS FALSE NEIGHBOUR: 'it returns false'. Refute it at one input. -/
def fnExactIsOpenFreeWrong : ChangeSpec := { name := "fnExactIsOpenFree", fn := fun _ => fun
  | [d] => { results := [.lit (.bool false)], args := [d] }
  | _ => none }
def FnExactIsOpenFreeWrongFalsely : Prop := fnExactIsOpenFreeRow.holds Try.pinned (OpenSpec.ofChange fnExactIsOpenFreeWrong)

/-- 'laws.FnExactDepthOf': WHATEVER THE INPUT: true; the input reads as it did. -/
def fnExactDepthOfSpec : ChangeSpec := { name := "fnExactDepthOf", fn := fun _ => fun
  | [d] => { results := [.lit (.bool true)], args := [d] }
  | _ => none }
def fnExactDepthOfRow : OpenClaim := { program := "ytdckaflfgbbabaa", sum := "793445a10f763d5083967820fa26c86613f8d0dc3d246189377df8d78a38d7c4", func := "loop.example/g02079/laws.FnExactDepthOf", spec := "fnExactDepthOf", recurses := true, apart := false }
def FnExactDepthOfSaid : Prop := fnExactDepthOfRow.holds Try.pinned (OpenSpec.ofChange fnExactDepthOfSpec)

/-- ITS FALSE NEIGHBOUR: 'it returns false'. Refute it at one input. -/
def fnExactDepthOfWrong : ChangeSpec := { name := "fnExactDepthOf", fn := fun _ => fun
  | [d] => { results := [.lit (.bool false)], args := [d] }
  | _ => none }
def FnExactDepthOfWrongFalsely : Prop := fnExactDepthOfRow.holds Try.pinned (OpenSpec.ofChange fnExactDepthOfWrong)

/-- 'laws.FnExactNegateFormula': WHATEVER THE INPUT: true; the input reads as it did. -/
def fnExactNegateFormulaSpec : ChangeSpec := { name := "fnExactNegateFormula", fn := fun _ => fun
  | [d] => { results := [.lit (.bool true)], args := [d] }
  | _ => none }
def fnExactNegateFormulaRow : OpenClaim := { program := "ytdckaflfgbbabaa", sum := "793445a10f763d5083967820fa26c86613f8d0dc3d246189377df8d78a38d7c4", func := "loop.example/g02079/laws.FnExactNegateFormula", spec := "fnExactNegateFormula", apart := false }
def FnExactNegateFormulaSaid : Prop := fnExactNegateFormulaRow.holds Try.pinned (OpenSpec.ofChange fnExactNegateFormulaSpec)

/-- ITS FALSE NEIGHBOUR: 'it returns false'. Refute it at one input. -/
def fnExactNegateFormulaWrong : ChangeSpec := { name := "fnExactNegateFormula", fn := fun _ => fun
  | [d] => { results := [.lit (.bool false)], args := [d] }
  | _ => none }
def FnExactNegateFormulaWrongFalsely : Prop := fnExactNegateFormulaRow.holds Try.pinned (OpenSpec.ofChange fnExactNegateFormulaWrong)

/-- 'laws.FnExactIsClosed': WHATEVER THE INPUT: true; the input reads as it did. -/
def fnExactIsClosedSpec : ChangeSpec := { name := "fnExactIsClosed", fn := fun _ => fun
  | [d] => { results := [.lit (.bool true)], args := [d] }
  | _ => none }
def fnExactIsClosedRow : OpenClaim := { program := "ytdckaflfgbbabaa", sum := "793445a10f763d5083967820fa26c86613f8d0dc3d246189377df8d78a38d7c4", func := "loop.example/g02079/laws.FnExactIsClosed", spec := "fnExactIsClosed", recurses := true, apart := false }
def FnExactIsClosedSaid : Prop := fnExactIsClosedRow.holds Try.pinned (OpenSpec.ofChange fnExactIsClosedSpec)

/-- ITS FALSE NEIGHBOUR: 'it returns false'. Refute it at one input. -/
def fnExactIsClosedWrong : ChangeSpec := { name := "fnExactIsClosed", fn := fun _ => fun
  | [d] => { results := [.lit (.bool false)], args := [d] }
  | _ => none }
def FnExactIsClosedWrongFalsely : Prop := fnExactIsClosedRow.holds Try.pinned (OpenSpec.ofChange fnExactIsClosedWrong)

/-- 'laws.FnExactFreeVariables': WHATEVER THE INPUT: true; the input reads as it did. -/
def fnExactFreeVariablesSpec : ChangeSpec := { name := "fnExactFreeVariables", fn := fun _ => fun
  | [d] => { results := [.lit (.bool true)], args := [d] }
  | _ => none }
def fnExactFreeVariablesRow : OpenClaim := { program := "ytdckaflfgbbabaa", sum := "793445a10f763d5083967820fa26c86613f8d0dc3d246189377df8d78a38d7c4", func := "loop.example/g02079/laws.FnExactFreeVariables", spec := "fnExactFreeVariables", recurses := true, apart := false }
def FnExactFreeVariablesSaid : Prop := fnExactFreeVariablesRow.holds Try.pinned (OpenSpec.ofChange fnExactFreeVariablesSpec)

/-- ITS FALSE NEIGHBOUR: 'it returns false'. Refute it at one input. -/
def fnExactFreeVariablesWrong : ChangeSpec := { name := "fnExactFreeVariables", fn := fun _ => fun
  | [d] => { results := [.lit (.bool false)], args := [d] }
  | _ => none }
def FnExactFreeVariablesWrongFalsely : Prop := fnExactFreeVariablesRow.holds Try.pinned (OpenSpec.ofChange fnExactFreeVariablesWrong)

/-- 'laws.FnExactClosedForm': WHATEVER THE INPUT: true; the input reads as it did. -/
def fnExactClosedFormSpec : ChangeSpec := { name := "fnExactClosedForm", fn := fun _ => fun
  | [d] => { results := [.lit (.bool true)], args := [d] }
  | _ => none }
def fnExactClosedFormRow : OpenClaim := { program := "ytdckaflfgbbabaa", sum := "793445a10f763d5083967820fa26c86613f8d0dc3d246189377df8d78a38d7c4", func := "loop.example/g02079/laws.FnExactClosedForm", spec := "fnExactClosedForm", recurses := true, apart := false }
def FnExactClosedFormSaid : Prop := fnExactClosedFormRow.holds Try.pinned (OpenSpec.ofChange fnExactClosedFormSpec)

/-- ITS FALSE NEIGHBOUR: 'it returns false'. Refute it at one input. -/
def fnExactClosedFormWrong : ChangeSpec := { name := "fnExactClosedForm", fn := fun _ => fun
  | [d] => { results := [.lit (.bool false)], args := [d] }
  | _ => none }
def FnExactClosedFormWrongFalsely : Prop := fnExactClosedFormRow.holds Try.pinned (OpenSpec.ofChange fnExactClosedFormWrong)

/-- 'laws.FnExactEvaluateFormula': WHATEVER THE INPUT: true; the input reads as it did. -/
def fnExactEvaluateFormulaSpec : ChangeSpec := { name := "fnExactEvaluateFormula", fn := fun _ => fun
  | [d1, d2, d3, d4] => { results := [.lit (.bool true)], args := [d1, d2, d3, d4] }
  | _ => none }
def fnExactEvaluateFormulaRow : OpenClaim := { program := "ytdckaflfgbbabaa", sum := "793445a10f763d5083967820fa26c86613f8d0dc3d246189377df8d78a38d7c4", func := "loop.example/g02079/laws.FnExactEvaluateFormula", spec := "fnExactEvaluateFormula", recurses := true, apart := false }
def FnExactEvaluateFormulaSaid : Prop := fnExactEvaluateFormulaRow.holds Try.pinned (OpenSpec.ofChange fnExactEvaluateFormulaSpec)

/-- ITS FALSE NEIGHBOUR: 'it returns false'. Refute it at one input. -/
def fnExactEvaluateFormulaWrong : ChangeSpec := { name := "fnExactEvaluateFormula", fn := fun _ => fun
  | [d1, d2, d3, d4] => { results := [.lit (.bool false)], args := [d1, d2, d3, d4] }
  | _ => none }
def FnExactEvaluateFormulaWrongFalsely : Prop := fnExactEvaluateFormulaRow.holds Try.pinned (OpenSpec.ofChange fnExactEvaluateFormulaWrong)

/- THE SECOND FORM. 'bulk': how many values and letters a reading holds, each counted each time it is reached (what is shared counts as often as it is met; a slice's spare places count too). A statement '..UptoSaid' is the law's where the arguments, and the package variables that the reading takes, are together of bulk at most 1048576: NARROWER than '..Said'. Prove '..Said' where nothing that the law and all that it calls make is longer than what came in: it says more and counts as full. Else prove '..UptoSaid'. A law counts once. -/
mutual
def uptoBulk {H : Type} : DataW H → Nat
  | .lit (.string bytes) => bytes.length + 1
  | .lit _ => 1
  | .nil => 1
  | .ptr d => uptoBulk d + 1
  | .slice elems spare => uptoBulkAll elems + uptoBulkAll spare + 1
  | .agg parts => uptoBulkAll parts + 1
  | .iface _ d => uptoBulk d + 1
  | .map entries => uptoBulkEntries entries + 1
  | .held _ => 1
def uptoBulkAll {H : Type} : List (DataW H) → Nat
  | [] => 0
  | d :: r => uptoBulk d + uptoBulkAll r
def uptoBulkEntries {H : Type} : List (Lit × DataW H) → Nat
  | [] => 0
  | x :: r => uptoBulkEntry x + uptoBulkEntries r
def uptoBulkEntry {H : Type} : Lit × DataW H → Nat
  | (.string bytes, d) => bytes.length + uptoBulk d + 1
  | (_, d) => uptoBulk d + 1
 end
def uptoSmall : (H : Type) → List (DataW H) → Bool := fun _ ds => decide (uptoBulkAll ds ≤ 1048576)
def OpenSpec.upto (s : _root_.Go.ChangeSpec) : _root_.Go.OpenSpec := { _root_.Go.OpenSpec.ofChange s with cond := some uptoSmall }

/-- 'laws.FnExactCountQuantifiers', WHERE WHAT IT READS IS OF BULK AT MOST 1048576: true; the input reads as it did. -/
def fnExactCountQuantifiersUptoRow : OpenClaim := { program := "ytdckaflfgbbabaa", sum := "793445a10f763d5083967820fa26c86613f8d0dc3d246189377df8d78a38d7c4", func := "loop.example/g02079/laws.FnExactCountQuantifiers", spec := "fnExactCountQuantifiers", apart := false, narrowed := true }
def FnExactCountQuantifiersUptoSaid : Prop := fnExactCountQuantifiersUptoRow.holds Try.pinned (OpenSpec.upto fnExactCountQuantifiersSpec)

/-- 'laws.FnExactIsFormula', WHERE WHAT IT READS IS OF BULK AT MOST 1048576: true; the input reads as it did. -/
def fnExactIsFormulaUptoRow : OpenClaim := { program := "ytdckaflfgbbabaa", sum := "793445a10f763d5083967820fa26c86613f8d0dc3d246189377df8d78a38d7c4", func := "loop.example/g02079/laws.FnExactIsFormula", spec := "fnExactIsFormula", apart := false, narrowed := true }
def FnExactIsFormulaUptoSaid : Prop := fnExactIsFormulaUptoRow.holds Try.pinned (OpenSpec.upto fnExactIsFormulaSpec)

/-- 'laws.FnExactIsExistential', WHERE WHAT IT READS IS OF BULK AT MOST 1048576: true; the input reads as it did. -/
def fnExactIsExistentialUptoRow : OpenClaim := { program := "ytdckaflfgbbabaa", sum := "793445a10f763d5083967820fa26c86613f8d0dc3d246189377df8d78a38d7c4", func := "loop.example/g02079/laws.FnExactIsExistential", spec := "fnExactIsExistential", apart := false, narrowed := true }
def FnExactIsExistentialUptoSaid : Prop := fnExactIsExistentialUptoRow.holds Try.pinned (OpenSpec.upto fnExactIsExistentialSpec)

/-- 'laws.FnExactIsOpenFree', WHERE WHAT IT READS IS OF BULK AT MOST 1048576: true; the input reads as it did. -/
def fnExactIsOpenFreeUptoRow : OpenClaim := { program := "ytdckaflfgbbabaa", sum := "793445a10f763d5083967820fa26c86613f8d0dc3d246189377df8d78a38d7c4", func := "loop.example/g02079/laws.FnExactIsOpenFree", spec := "fnExactIsOpenFree", apart := false, narrowed := true }
def FnExactIsOpenFreeUptoSaid : Prop := fnExactIsOpenFreeUptoRow.holds Try.pinned (OpenSpec.upto fnExactIsOpenFreeSpec)

/-- 'laws.FnExactDepthOf', WHERE WHAT IT READS IS OF BULK AT MOST 1048576: true; the input reads as it did. -/
def fnExactDepthOfUptoRow : OpenClaim := { program := "ytdckaflfgbbabaa", sum := "793445a10f763d5083967820fa26c86613f8d0dc3d246189377df8d78a38d7c4", func := "loop.example/g02079/laws.FnExactDepthOf", spec := "fnExactDepthOf", recurses := true, apart := false, narrowed := true }
def FnExactDepthOfUptoSaid : Prop := fnExactDepthOfUptoRow.holds Try.pinned (OpenSpec.upto fnExactDepthOfSpec)

/-- 'laws.FnExactNegateFormula', WHERE WHAT IT READS IS OF BULK AT MOST 1048576: true; the input reads as it did. -/
def fnExactNegateFormulaUptoRow : OpenClaim := { program := "ytdckaflfgbbabaa", sum := "793445a10f763d5083967820fa26c86613f8d0dc3d246189377df8d78a38d7c4", func := "loop.example/g02079/laws.FnExactNegateFormula", spec := "fnExactNegateFormula", apart := false, narrowed := true }
def FnExactNegateFormulaUptoSaid : Prop := fnExactNegateFormulaUptoRow.holds Try.pinned (OpenSpec.upto fnExactNegateFormulaSpec)

/-- 'laws.FnExactIsClosed', WHERE WHAT IT READS IS OF BULK AT MOST 1048576: true; the input reads as it did. -/
def fnExactIsClosedUptoRow : OpenClaim := { program := "ytdckaflfgbbabaa", sum := "793445a10f763d5083967820fa26c86613f8d0dc3d246189377df8d78a38d7c4", func := "loop.example/g02079/laws.FnExactIsClosed", spec := "fnExactIsClosed", recurses := true, apart := false, narrowed := true }
def FnExactIsClosedUptoSaid : Prop := fnExactIsClosedUptoRow.holds Try.pinned (OpenSpec.upto fnExactIsClosedSpec)

/-- 'laws.FnExactFreeVariables', WHERE WHAT IT READS IS OF BULK AT MOST 1048576: true; the input reads as it did. -/
def fnExactFreeVariablesUptoRow : OpenClaim := { program := "ytdckaflfgbbabaa", sum := "793445a10f763d5083967820fa26c86613f8d0dc3d246189377df8d78a38d7c4", func := "loop.example/g02079/laws.FnExactFreeVariables", spec := "fnExactFreeVariables", recurses := true, apart := false, narrowed := true }
def FnExactFreeVariablesUptoSaid : Prop := fnExactFreeVariablesUptoRow.holds Try.pinned (OpenSpec.upto fnExactFreeVariablesSpec)

/-- 'laws.FnExactClosedForm', WHERE WHAT IT READS IS OF BULK AT MOST 1048576: true; the input reads as it did. -/
def fnExactClosedFormUptoRow : OpenClaim := { program := "ytdckaflfgbbabaa", sum := "793445a10f763d5083967820fa26c86613f8d0dc3d246189377df8d78a38d7c4", func := "loop.example/g02079/laws.FnExactClosedForm", spec := "fnExactClosedForm", recurses := true, apart := false, narrowed := true }
def FnExactClosedFormUptoSaid : Prop := fnExactClosedFormUptoRow.holds Try.pinned (OpenSpec.upto fnExactClosedFormSpec)

/-- 'laws.FnExactEvaluateFormula', WHERE WHAT IT READS IS OF BULK AT MOST 1048576: true; the input reads as it did. -/
def fnExactEvaluateFormulaUptoRow : OpenClaim := { program := "ytdckaflfgbbabaa", sum := "793445a10f763d5083967820fa26c86613f8d0dc3d246189377df8d78a38d7c4", func := "loop.example/g02079/laws.FnExactEvaluateFormula", spec := "fnExactEvaluateFormula", recurses := true, apart := false, narrowed := true }
def FnExactEvaluateFormulaUptoSaid : Prop := fnExactEvaluateFormulaUptoRow.holds Try.pinned (OpenSpec.upto fnExactEvaluateFormulaSpec)

end Rows
end Go.Proofs.Ytdckaflfgbbabaa
