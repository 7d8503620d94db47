/- The pure law FnExactSumRelation: what the printed functions of the program and of the reference compute agrees, for all arguments. -/
import Derived.Test.YtgopcliohchkmaaQ0
import Derived.Test.YtgopcliohchkmaaQ1
import Derived.Test.YtgopcliohchkmaaQ2
import Derived.Test.YtgopcliohchkmaaQ231
import Derived.Test.YtgopcliohchkmaaQ232
import Derived.Test.YtgopcliohchkmaaQ233
import Derived.Test.YtgopcliohchkmaaQ3
import Derived.Test.YtgopcliohchkmaaMRow
namespace Go.Proofs.Ytgopcliohchkmaa.Pure
open Go.RowKit Go.Proofs.Ytgopcliohchkmaa.Q Go.Proofs.Ytgopcliohchkmaa.MRow Go.Proofs.YtgopcliohchkmaaW.PrintWords Go.Proofs.YtgopcliohchkmaaW.PrintLast
set_option linter.unusedVariables false
set_option linter.unusedSimpArgs false

/-! base -/
/-! spec_l1In -/
theorem l1In_eq (a b c : Int) : spec_l1In.f a b c = some (decide (b ≤ a ∧ a ≤ c)) := by
  unfold spec_l1In.f
  by_cases h : a ≥ b
  · rw [if_pos h]
    congr 1
    simp; omega
  · rw [if_neg h]
    congr 1
    simp; omega

/-! laws_toIntS -/
/-! laws_eqIntS -/
/-! RowsBase -/
/-! IntSS -/
/-! Relation -/
/-! marksI -/
/-! marksR -/
/-! heldR -/
/-! law_FnExactSumRelation -/
theorem FnExactSumRelation (a0 : Int) (w0 : -9223372036854775808 ≤ a0 ∧ a0 ≤ 9223372036854775807) : ∃ k, laws_FnExactSumRelation.f k a0 = some true := by
  by_cases h2 : a0 = 2
  · subst h2
    exact ⟨2000, by decide +kernel⟩
  by_cases h3 : a0 = 3
  · subst h3
    exact ⟨2000, by decide +kernel⟩
  have hs : impl_isSmallBase.f a0 = some false := by
    unfold impl_isSmallBase.f
    simp [h2, h3]
  refine ⟨300, ?_⟩
  have e1 : spec_SumRelation.f 300 a0 = some (0, 0, [], [], false) := by
    unfold spec_SumRelation.f
    rw [l1In_eq, Option.bind_some, decide_eq_false (by omega)]
    rfl
  have e2 : impl_SumRelation.f 300 a0 = some (0, 0, [], [], false) := by
    unfold impl_SumRelation.f impl_made.f
    rw [hs]
    rfl
  unfold laws_FnExactSumRelation.f
  rw [e1, e2]
  rfl

end Go.Proofs.Ytgopcliohchkmaa.Pure
