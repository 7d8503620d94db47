/- Walks of functions with the plain evaluator: what each computes -/
import Derived.Test.YtefelghmmpmigaaEh1
import Derived.Test.YtefelghmmpmigaaEp
import Derived.Test.YtefelghmmpmigaaF8
import Derived.Test.YtefelghmmpmigaaW0
import Derived.Test.YtefelghmmpmigaaW1
import Derived.Test.YtefelghmmpmigaaW2
namespace Go.Ev
open Go.Proofs Go Go.Proofs.YtefelghmmpmigaaW.PrintWords Go.Proofs.Ytefelghmmpmigaa.Q
set_option maxRecDepth 100000
set_option linter.unusedVariables false
attribute [local irreducible] br Loop
/-! impl_EitherRelation -/
noncomputable def lv23 : Nat → List Nat := atL []
noncomputable def dr23 : Nat → Dr := atD []
theorem ok23 : bodyOk dr23 Try.f23 = true := by kernel_rfl
set_option maxHeartbeats 8000000 in
theorem impl_EitherRelation.pr {k : Nat} {a0_0 : Int} {a0_1 : Int} {l0_2 : List (List Int)} {l0_3 : List Bool} {a1_0 : Int} {a1_1 : Int} {l1_2 : List (List Int)} {l1_3 : List Bool} {r : (Int × Int × List (List Int) × List Bool × Bool)} {n0 : Nat} {c0 : List AV} {n1 : Nat} {n2 : Nat} {c2 : List AV} {n3 : Nat} (H : impl_EitherRelation.f k a0_0 a0_1 l0_2 l0_3 a1_0 a1_1 l1_2 l1_3 = some r) (hn0 : n0 = l0_2.length := by exact ln) (hc0 : mapR view c0 = iis l0_2 := by exact vw) (hn1 : n1 = l0_3.length := by exact ln) (hn2 : n2 = l1_2.length := by exact ln) (hc2 : mapR view c2 = iis l1_2 := by exact vw) (hn3 : n3 = l1_3.length := by exact ln) : Promise Try.prog tb 23 [.agg [.int .i64 a0_0, .int .i64 a0_1, .lit n0 c0, .lit n1 (bb l0_3)], .agg [.int .i64 a1_0, .int .i64 a1_1, .lit n2 c2, .lit n3 (bb l1_3)]] (.tup [.agg [.int .i64 r.1, .int .i64 r.2.1, .own 23 r.2.2.1.length (ois 3 r.2.2.1), .own 4 r.2.2.2.1.length (bb r.2.2.2.1)], .bool r.2.2.2.2]) := by
  subst hn0
  subst hn1
  subst hn2
  subst hn3
  refine Promise.weak (.cons (weak_agg (.cons (Weak.refl _) <| .cons (Weak.refl _) <| .cons (weak_lit hc0) <| .cons (Weak.refl _) <| .nil)) <| .cons (weak_agg (.cons (Weak.refl _) <| .cons (Weak.refl _) <| .cons (weak_lit hc2) <| .cons (Weak.refl _) <| .nil)) <| .nil) ?_
  have E := @reF _ (fun r : (Int × Int × List (List Int) × List Bool × Bool) => .tup [.agg [.int .i64 r.1, .int .i64 r.2.1, .own 23 r.2.2.1.length (ois 3 r.2.2.1), .own 4 r.2.2.2.1.length (bb r.2.2.2.1)], .bool r.2.2.2.2]) r
  refine promise_body tb_ok rfl lv23 dr23 Try.func23 ok23 rfl ?_
  unfold impl_EitherRelation.f at H
  replace H := oC H
  obtain ⟨_, C0, H⟩ := H
  refine aA ?_
  refine aA ?_
  refine leE ?_
  refine aA ?_
  refine leE ?_
  refine aA ?_
  refine Exists.intro _ (And.intro (impl_combined.pr C0) ?_)
  refine exV ?_
  refine exV ?_
  refine aA ?_
  refine leE ?_
  refine aA ?_
  exact E H
/-! laws_FnExactEitherRelation -/
noncomputable def lv5 : Nat → List Nat := atL []
noncomputable def dr5 : Nat → Dr := atD [(8, ⟨[(1, 0, [196]), (3, 0, [196]), (4, 0, [196]), (5, 0, [196]), (6, 0, [196]), (7, 2, [196])], line [0, 2, 8, 1, 3, 4, 5, 6, 7, 9, 10]⟩), (14, ⟨[], line [0, 1, 2, 3, 4]⟩), (16, ⟨[], line [0, 1, 2, 3, 4]⟩), (31, ⟨[(1, 0, [340]), (3, 0, [340]), (4, 0, [340]), (5, 0, [340]), (6, 0, [340]), (7, 2, [340])], line [0, 2, 8, 1, 3, 4, 5, 6, 7, 9, 10]⟩)]
theorem ok5 : bodyOk dr5 Try.f5 = true := by kernel_rfl
set_option maxHeartbeats 8000000 in
theorem laws_FnExactEitherRelation.pr {k : Nat} {a0_0 : Int} {a0_1 : Int} {l0_2 : List (List Int)} {l0_3 : List Bool} {a1_0 : Int} {a1_1 : Int} {l1_2 : List (List Int)} {l1_3 : List Bool} {r : Bool} (H : laws_FnExactEitherRelation.f k a0_0 a0_1 l0_2 l0_3 a1_0 a1_1 l1_2 l1_3 = some r) : Contract Try.prog tb 5 [.agg [.int .i64 a0_0, .int .i64 a0_1, .lit l0_2.length (iis l0_2), .lit l0_3.length (bb l0_3)], .agg [.int .i64 a1_0, .int .i64 a1_1, .lit l1_2.length (iis l1_2), .lit l1_3.length (bb l1_3)]] (.bool r) := by
  have E := @reF _ (fun r : Bool => .bool r) r
  refine law_body tb_ok rfl lv5 dr5 Try.func5 ok5 (xs := [.agg [.int .i64 a0_0, .int .i64 a0_1, .xr 16, .xr 17], .agg [.int .i64 a1_0, .int .i64 a1_1, .xr 18, .xr 19]]) (ex := [(l0_2.length, (iis l0_2)), (l0_3.length, (bb l0_3)), (l1_2.length, (iis l1_2)), (l1_3.length, (bb l1_3))]) rfl ?_
  unfold laws_FnExactEitherRelation.f at H
  replace H := oC H
  obtain ⟨_, C0, H⟩ := H
  refine aA ?_
  refine aA ?_
  refine leE ?_
  refine aA ?_
  refine Exists.intro _ (And.intro (laws_szRelation.pr C0) ?_)
  refine brI H ?_ ?_ <;> clear H <;> intro _ H
  ·exact E H
  ·replace H := oC H
   obtain ⟨_, C1, H⟩ := H
   refine leE ?_
   refine aA ?_
   refine Exists.intro _ (And.intro (laws_szRelation.pr C1) ?_)
   refine brI H ?_ ?_ <;> clear H <;> intro _ H
   ·exact E H
   ·replace H := oC H
    obtain ⟨_, C2, H⟩ := H
    replace H := oC H
    obtain ⟨_, C3, H⟩ := H
    replace H := oC H
    obtain ⟨_, C4, H⟩ := H
    replace H := oC H
    obtain ⟨_, C5, H⟩ := H
    replace H := oC H
    obtain ⟨_, C6, H⟩ := H
    replace H := oA H
    obtain ⟨_, H⟩ := H
    replace H := oA H
    obtain ⟨_, H⟩ := H
    replace H := oC H
    obtain ⟨_, C7, H⟩ := H
    replace H := oA H
    obtain ⟨_, H⟩ := H
    replace H := oC H
    obtain ⟨_, C8, H⟩ := H
    replace H := oA H
    obtain ⟨_, H⟩ := H
    replace H := oC H
    obtain ⟨_, C9, H⟩ := H
    replace H := oC H
    obtain ⟨_, C10, H⟩ := H
    replace H := oA H
    obtain ⟨_, H⟩ := H
    replace H := oA H
    obtain ⟨_, H⟩ := H
    replace H := oA H
    obtain ⟨_, H⟩ := H
    replace H := oC H
    obtain ⟨_, C11, H⟩ := H
    replace H := oC H
    obtain ⟨_, C12, H⟩ := H
    replace H := oA H
    obtain ⟨_, H⟩ := H
    replace H := oA H
    obtain ⟨_, H⟩ := H
    replace H := oA H
    obtain ⟨_, H⟩ := H
    replace H := oA H
    obtain ⟨_, H⟩ := H
    replace H := oA H
    obtain ⟨_, H⟩ := H
    replace H := oA H
    obtain ⟨_, H⟩ := H
    refine leE ?_
    refine aA ?_
    refine leE ?_
    refine aA ?_
    refine Exists.intro _ (And.intro (laws_toRelation.pr C2) ?_)
    refine Exists.intro _ (And.intro (laws_toRelation.pr C3) ?_)
    refine Exists.intro _ (And.intro (spec_EitherRelation.pr C4) ?_)
    refine exV ?_
    refine exV ?_
    refine aA ?_
    refine leE ?_
    refine aA ?_
    refine Exists.intro _ (And.intro (laws_toRelation.pr C2) ?_)
    refine aA ?_
    refine leE ?_
    refine aA ?_
    refine Exists.intro _ (And.intro (laws_toRelation.pr C3) ?_)
    refine aA ?_
    refine leE ?_
    refine aA ?_
    refine leE ?_
    refine aA ?_
    refine Exists.intro _ (And.intro (impl_EitherRelation.pr C5) ?_)
    refine exV ?_
    refine exV ?_
    refine aA ?_
    refine leE ?_
    refine aA ?_
    refine leE ?_
    refine aA ?_
    refine Exists.intro _ (And.intro (laws_eqRelation.pr C6) ?_)
    refine brF ?_
    refine brF ?_
    refine brF ?_
    refine brF ?_
    refine brF ?_
    refine leE ?_
    refine aA ?_
    refine leE ?_
    refine aA ?_
    refine Exists.intro _ (And.intro (laws_toRelation.pr C2) ?_)
    refine Exists.intro _ (And.intro (laws_eqRelation.pr C7) ?_)
    refine brF ?_
    refine leE ?_
    refine aA ?_
    refine leE ?_
    refine aA ?_
    refine Exists.intro _ (And.intro (laws_toRelation.pr C3) ?_)
    refine Exists.intro _ (And.intro (laws_eqRelation.pr C8) ?_)
    refine brF ?_
    refine leE ?_
    refine aA ?_
    have LC9 := laws_markRelation.len C9
    refine exW (laws_markRelation.pr C9) ?_
    refine leE ?_
    refine aA ?_
    have LC10 := laws_markRelation.len C10
    refine exW (laws_markRelation.pr C10) ?_
    refine brF ?_
    refine leE ?_
    refine aA ?_
    refine brF ?_
    refine leE ?_
    refine aA ?_
    refine brF ?_
    refine Exists.intro _ (And.intro (laws_eqRelation.pr C6) ?_)
    refine brF ?_
    refine brF ?_
    refine brF ?_
    refine brF ?_
    refine brF ?_
    refine brF ?_
    refine brF ?_
    refine leE ?_
    refine aA ?_
    have LC11 := laws_markRelation.len C11
    refine exW (laws_markRelation.pr C11) ?_
    refine leE ?_
    refine aA ?_
    refine Exists.intro _ (And.intro (laws_heldRelation.pr C12) ?_)
    refine brF ?_
    refine brF ?_
    refine leE ?_
    refine aA ?_
    refine leE ?_
    refine aA ?_
    refine Exists.intro _ (And.intro (laws_toRelation.pr C2) ?_)
    refine Exists.intro _ (And.intro (laws_toRelation.pr C3) ?_)
    refine Exists.intro _ (And.intro (impl_EitherRelation.pr C5) ?_)
    refine exV ?_
    refine exV ?_
    refine aA ?_
    refine leE ?_
    refine aA ?_
    refine leE ?_
    refine aA ?_
    refine Exists.intro _ (And.intro (laws_eqRelation.pr C6) ?_)
    refine brF ?_
    refine brF ?_
    refine brF ?_
    refine brF ?_
    refine brF ?_
    refine leE ?_
    refine aA ?_
    refine Exists.intro _ (And.intro (laws_heldRelation.pr C12) ?_)
    refine brF ?_
    refine brF ?_
    exact E H
end Go.Ev
