/- The pure law FnExactLemmaNames: what the printed functions of the program and of the reference compute agrees, for all arguments within the bounds that the statement gives. -/
import Derived.Test.YtaobkepknhnfoaaPFnExactLemmaNamesx1
namespace Go.Proofs.Ytaobkepknhnfoaa.Pure
open Go.RowKit Go.Proofs.Ytaobkepknhnfoaa.PFnExactLemmaNames Go.Proofs.YtaobkepknhnfoaaW.PrintWords Go.Proofs.YtaobkepknhnfoaaW.PrintLast
set_option linter.unusedVariables false
set_option linter.unusedSimpArgs false

/-! base -/
theorem w64 {x : Int} (h0 : -9223372036854775808 ≤ x) (h1 : x < 9223372036854775808) : wrap64 x = x := by
  unfold wrap64; omega

theorem rd_of {xs : List Int} {i : Nat} (h : i < xs.length) : rd xs (i : Int) = xs[i] := by
  simp [rd, List.getD_eq_getElem?_getD, h]

/-! law_FnExactLemmaNames -/
theorem FnExactLemmaNames : laws_FnExactLemmaNames.Pure := by
  refine ⟨20, ?_⟩
  decide +kernel

end Go.Proofs.Ytaobkepknhnfoaa.Pure
