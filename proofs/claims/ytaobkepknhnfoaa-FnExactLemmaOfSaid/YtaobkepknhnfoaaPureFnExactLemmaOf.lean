/- The pure law FnExactLemmaOf: what the printed functions of the program and of the reference compute agrees, for all arguments within the bounds that the statement gives. -/
import Derived.Test.YtaobkepknhnfoaaPFnExactLemmaOfx1
namespace Go.Proofs.Ytaobkepknhnfoaa.Pure
open Go.RowKit Go.Proofs.Ytaobkepknhnfoaa.PFnExactLemmaOf Go.Proofs.YtaobkepknhnfoaaW.PrintWords Go.Proofs.YtaobkepknhnfoaaW.PrintLast
set_option linter.unusedVariables false
set_option linter.unusedSimpArgs false

/-! base -/
theorem w64 {x : Int} (h0 : -9223372036854775808 ≤ x) (h1 : x < 9223372036854775808) : wrap64 x = x := by
  unfold wrap64; omega

theorem rd_of {xs : List Int} {i : Nat} (h : i < xs.length) : rd xs (i : Int) = xs[i] := by
  simp [rd, List.getD_eq_getElem?_getD, h]

/-! law_FnExactLemmaOf -/
theorem FnExactLemmaOf : laws_FnExactLemmaOf.Pure := by
  intro a0 _
  unfold laws_FnExactLemmaOf.f
  split
  · rfl
  · have e : spec_LemmaOf.f a0 = impl_LemmaOf.f a0 := rfl
    obtain ⟨r, hr⟩ : ∃ r, impl_LemmaOf.f a0 = some r := by
      unfold impl_LemmaOf.f
      repeat' split
      all_goals exact ⟨_, rfl⟩
    rw [e, hr]
    simp [laws_eqLemma.f]

end Go.Proofs.Ytaobkepknhnfoaa.Pure
