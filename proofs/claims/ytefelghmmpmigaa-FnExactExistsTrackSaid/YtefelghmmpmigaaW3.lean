/- Walks of functions with the plain evaluator: what each computes -/
import Derived.Test.YtefelghmmpmigaaEh3
import Derived.Test.YtefelghmmpmigaaEx
import Derived.Test.YtefelghmmpmigaaF8
import Derived.Test.YtefelghmmpmigaaW0
import Derived.Test.YtefelghmmpmigaaW1
import Derived.Test.YtefelghmmpmigaaW2
namespace Go.Ev
open Go.Proofs Go Go.Proofs.YtefelghmmpmigaaW.PrintWords Go.Proofs.Ytefelghmmpmigaa.Q
set_option maxRecDepth 100000
set_option linter.unusedVariables false
attribute [local irreducible] br Loop
/-! laws_FnExactExistsTrack -/
noncomputable def lv6 : Nat → List Nat := atL []
noncomputable def dr6 : Nat → Dr := atD [(10, ⟨[], line [0, 1, 2, 3, 4]⟩)]
theorem ok6 : bodyOk dr6 Try.f6 = true := by kernel_rfl
set_option maxHeartbeats 8000000 in
theorem laws_FnExactExistsTrack.pr {k : Nat} {a0_0 : Int} {a0_1 : Int} {l0_2 : List (List Int)} {l0_3 : List Bool} {a1 : Int} {r : Bool} (H : laws_FnExactExistsTrack.f k a0_0 a0_1 l0_2 l0_3 a1 = some r) : Contract Try.prog tb 6 [.agg [.int .i64 a0_0, .int .i64 a0_1, .lit l0_2.length (iis l0_2), .lit l0_3.length (bb l0_3)], .int .i64 a1] (.bool r) := by
  have E := @reF _ (fun r : Bool => .bool r) r
  refine law_body tb_ok rfl lv6 dr6 Try.func6 ok6 (xs := [.agg [.int .i64 a0_0, .int .i64 a0_1, .xr 16, .xr 17], .int .i64 a1]) (ex := [(l0_2.length, (iis l0_2)), (l0_3.length, (bb l0_3))]) rfl ?_
  unfold laws_FnExactExistsTrack.f at H
  replace H := oC H
  obtain ⟨_, C0, H⟩ := H
  refine aA ?_
  refine leE ?_
  refine aA ?_
  refine Exists.intro _ (And.intro (laws_szRelation.pr C0) ?_)
  refine brI H ?_ ?_ <;> clear H <;> intro _ H
  ·exact E H
  ·replace H := oC H
   obtain ⟨_, C1, H⟩ := H
   replace H := oC H
   obtain ⟨_, C2, H⟩ := H
   replace H := oC H
   obtain ⟨_, C3, H⟩ := H
   replace H := oC H
   obtain ⟨_, C4, H⟩ := H
   replace H := oA H
   obtain ⟨_, H⟩ := H
   replace H := oA H
   obtain ⟨_, H⟩ := H
   replace H := oC H
   obtain ⟨_, C5, H⟩ := H
   replace H := oA H
   obtain ⟨_, H⟩ := H
   replace H := oC H
   obtain ⟨_, C6, H⟩ := H
   replace H := oA H
   obtain ⟨_, H⟩ := H
   replace H := oA H
   obtain ⟨_, H⟩ := H
   replace H := oA H
   obtain ⟨_, H⟩ := H
   replace H := oC H
   obtain ⟨_, C7, H⟩ := H
   replace H := oC H
   obtain ⟨_, C8, H⟩ := H
   replace H := oA H
   obtain ⟨_, H⟩ := H
   replace H := oA H
   obtain ⟨_, H⟩ := H
   replace H := oA H
   obtain ⟨_, H⟩ := H
   replace H := oA H
   obtain ⟨_, H⟩ := H
   replace H := oA H
   obtain ⟨_, H⟩ := H
   replace H := oA H
   obtain ⟨_, H⟩ := H
   refine leE ?_
   refine aA ?_
   refine Exists.intro _ (And.intro (laws_toRelation.pr C1) ?_)
   refine Exists.intro _ (And.intro (spec_ExistsTrack.pr C2) ?_)
   refine exV ?_
   refine exV ?_
   refine aA ?_
   refine leE ?_
   refine leE ?_
   refine aA ?_
   refine Exists.intro _ (And.intro (laws_toRelation.pr C1) ?_)
   refine aA ?_
   refine leE ?_
   refine leE ?_
   refine aA ?_
   refine Exists.intro _ (And.intro (impl_ExistsTrack.pr C3) ?_)
   refine exV ?_
   refine exV ?_
   refine aA ?_
   refine leE ?_
   refine leE ?_
   refine aA ?_
   refine leE ?_
   refine aA ?_
   refine Exists.intro _ (And.intro (laws_eqRelation.pr C4) ?_)
   refine brF ?_
   refine brF ?_
   refine brF ?_
   refine brF ?_
   refine brF ?_
   refine leE ?_
   refine aA ?_
   refine leE ?_
   refine aA ?_
   refine Exists.intro _ (And.intro (laws_toRelation.pr C1) ?_)
   refine Exists.intro _ (And.intro (laws_eqRelation.pr C5) ?_)
   refine brF ?_
   refine leE ?_
   refine aA ?_
   have LC6 := laws_markRelation.len C6
   refine exW (laws_markRelation.pr C6) ?_
   refine brF ?_
   refine leE ?_
   refine aA ?_
   refine brF ?_
   refine leE ?_
   refine aA ?_
   refine brF ?_
   refine Exists.intro _ (And.intro (laws_eqRelation.pr C4) ?_)
   refine brF ?_
   refine brF ?_
   refine brF ?_
   refine brF ?_
   refine brF ?_
   refine brF ?_
   refine brF ?_
   refine leE ?_
   refine aA ?_
   have LC7 := laws_markRelation.len C7
   refine exW (laws_markRelation.pr C7) ?_
   refine leE ?_
   refine aA ?_
   refine Exists.intro _ (And.intro (laws_heldRelation.pr C8) ?_)
   refine brF ?_
   refine brF ?_
   refine leE ?_
   refine aA ?_
   refine Exists.intro _ (And.intro (laws_toRelation.pr C1) ?_)
   refine Exists.intro _ (And.intro (impl_ExistsTrack.pr C3) ?_)
   refine exV ?_
   refine exV ?_
   refine aA ?_
   refine leE ?_
   refine leE ?_
   refine aA ?_
   refine leE ?_
   refine aA ?_
   refine Exists.intro _ (And.intro (laws_eqRelation.pr C4) ?_)
   refine brF ?_
   refine brF ?_
   refine brF ?_
   refine brF ?_
   refine brF ?_
   refine leE ?_
   refine aA ?_
   refine Exists.intro _ (And.intro (laws_heldRelation.pr C8) ?_)
   refine brF ?_
   refine brF ?_
   exact E H
end Go.Ev
