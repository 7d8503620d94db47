/- Walks of functions with the plain evaluator: what each computes -/
import Derived.Test.YtmkeicahnnlalaaEh
import Derived.Test.YtmkeicahnnlalaaEp
import Derived.Test.YtmkeicahnnlalaaW4
import Derived.Test.YtmkeicahnnlalaaW5
import Derived.Test.YtmkeicahnnlalaaW6
namespace Go.Ev
open Go.Proofs Go Go.Proofs.YtmkeicahnnlalaaW.PrintWords Go.Proofs.Ytmkeicahnnlalaa.Q
set_option maxRecDepth 100000
set_option linter.unusedVariables false
attribute [local irreducible] br Loop
/-! slices_Equal_int_int -/
noncomputable def lv114 : Nat → List Nat := atL [(0, [0, 1, 12, 13])]
noncomputable def dr114 : Nat → Dr := atD [(6, ⟨[], line [0, 1, 2, 3, 4, 5, 6, 7, 8]⟩)]
theorem ok114 : bodyOk dr114 Try.f114 = true := by kernel_rfl
set_option maxHeartbeats 8000000 in
theorem slices_Equal_int_int.pr {k : Nat} {l0 : List Int} {l1 : List Int} {r : (Bool)} {n0 : Nat} {n1 : Nat} (H : slices_Equal_int_int.f k l0 l1 = some r) (hn0 : n0 = l0.length := by exact ln) (hn1 : n1 = l1.length := by exact ln) : Promise Try.prog tb 114 [.lit n0 (ii l0), .lit n1 (ii l1)] (.bool r) := by
  subst hn0
  subst hn1
  have E := @reF _ (fun r : (Bool) => .bool r) r
  refine promise_body tb_ok rfl lv114 dr114 Try.func114 ok114 rfl ?_
  unfold slices_Equal_int_int.f at H
  refine brN H ?_ ?_ <;> clear H <;> intro _ H
  ·exact E H
  ·refine L4 (fun a0 a1 a12 a13 => ⟨asl [(0, .lit a0.length (ii a0)), (1, .lit a1.length (ii a1)), (12, .int IntKind.i64 a12), (13, .int IntKind.i64 a13)], hp []⟩) slices_Equal_int_int.l0 H (cI [] [] []) ?_
   clear H
   intro k a0 a1 a12 a13 L0 hk H hL0
   rw [slices_Equal_int_int.l0] at H
   refine brI H ?_ ?_ <;> clear H <;> intro _ H
   ·replace H := oA H
    obtain ⟨_, H⟩ := H
    replace H := oA H
    obtain ⟨_, H⟩ := H
    replace H := oA H
    obtain ⟨_, H⟩ := H
    refine aA ?_
    refine exI ?_
    refine aA ?_
    refine exI ?_
    refine brN H ?_ ?_ <;> clear H <;> intro _ H
    ·exact E H
    ·exact hL0 _ _ _ _ _ _ H (by omega) (cI [] [] [])
   ·exact E H
/-! slices_EqualFunc_int_int_int_int -/
noncomputable def lv113 : Nat → List Nat := atL [(0, [1, 2, 15, 16, 17])]
noncomputable def dr113 : Nat → Dr := atD []
theorem ok113 : bodyOk dr113 Try.f113 = true := by kernel_rfl
set_option maxHeartbeats 8000000 in
theorem slices_EqualFunc_int_int_int_int.pr {k : Nat} {l0 l1 : List (List Int)} {r : Bool} {n0 n1 : Nat} {c0 c1 : List AV} (H : slices_EqualFunc_int_int_int_int.f k l0 l1 = some r) (hn0 : n0 = l0.length := by exact ln) (hc0 : mapR view c0 = iis l0 := by exact vw) (hn1 : n1 = l1.length := by exact ln) (hc1 : mapR view c1 = iis l1 := by exact vw) : Promise Try.prog tb 113 [.lit n0 c0, .lit n1 c1, .fn 114 []] (.bool r) := by
  subst hn0
  subst hn1
  refine Promise.weak (.cons (weak_lit hc0) <| .cons (weak_lit hc1) <| .cons (Weak.refl _) <| .nil) ?_
  have E := @reF _ (fun r : Bool => .bool r) r
  refine promise_body tb_ok rfl lv113 dr113 Try.func113 ok113 rfl ?_
  unfold slices_EqualFunc_int_int_int_int.f at H
  refine brN H ?_ ?_ <;> clear H <;> intro _ H
  ·exact E H
  ·refine L4 (fun a1 a15 a16 a17 => ⟨asl [(1, .lit a1.length (iis a1)), (2, .fn 114 []), (15, .lit a15.length (iis a15)), (16, .int IntKind.i64 a16), (17, .int IntKind.i64 a17)], hp []⟩) slices_EqualFunc_int_int_int_int.l0 H (cI [] [] []) ?_
   clear H
   intro k a1 a15 a16 a17 L0 hk H hL0
   rw [slices_EqualFunc_int_int_int_int.l0] at H
   refine brI H ?_ ?_ <;> clear H <;> intro _ H
   ·replace H := oA H
    obtain ⟨_, H⟩ := H
    replace H := oA H
    obtain ⟨_, H⟩ := H
    replace H := oA H
    obtain ⟨_, H⟩ := H
    replace H := oC H
    obtain ⟨_, C0, H⟩ := H
    refine aA ?_
    refine exR ?_
    refine aA ?_
    refine exR ?_
    refine Exists.intro _ (And.intro (slices_Equal_int_int.pr C0) ?_)
    refine brN H ?_ ?_ <;> clear H <;> intro _ H
    ·exact E H
    ·exact hL0 _ _ _ _ _ _ H (by omega) (cI [] [] [])
   ·exact E H
/-! slices_Equal_bool_bool -/
noncomputable def lv115 : Nat → List Nat := atL [(0, [0, 1, 12, 13])]
noncomputable def dr115 : Nat → Dr := atD [(6, ⟨[], line [0, 1, 2, 3, 4, 5, 6, 7, 8]⟩)]
theorem ok115 : bodyOk dr115 Try.f115 = true := by kernel_rfl
set_option maxHeartbeats 8000000 in
theorem slices_Equal_bool_bool.pr {k : Nat} {l0 : List Bool} {l1 : List Bool} {r : (Bool)} {n0 : Nat} {n1 : Nat} (H : slices_Equal_bool_bool.f k l0 l1 = some r) (hn0 : n0 = l0.length := by exact ln) (hn1 : n1 = l1.length := by exact ln) : Promise Try.prog tb 115 [.lit n0 (bb l0), .lit n1 (bb l1)] (.bool r) := by
  subst hn0
  subst hn1
  have E := @reF _ (fun r : (Bool) => .bool r) r
  refine promise_body tb_ok rfl lv115 dr115 Try.func115 ok115 rfl ?_
  unfold slices_Equal_bool_bool.f at H
  refine brN H ?_ ?_ <;> clear H <;> intro _ H
  ·exact E H
  ·refine L4 (fun a0 a1 a12 a13 => ⟨asl [(0, .lit a0.length (bb a0)), (1, .lit a1.length (bb a1)), (12, .int IntKind.i64 a12), (13, .int IntKind.i64 a13)], hp []⟩) slices_Equal_bool_bool.l0 H (cI [] [] []) ?_
   clear H
   intro k a0 a1 a12 a13 L0 hk H hL0
   rw [slices_Equal_bool_bool.l0] at H
   refine brI H ?_ ?_ <;> clear H <;> intro _ H
   ·replace H := oA H
    obtain ⟨_, H⟩ := H
    replace H := oA H
    obtain ⟨_, H⟩ := H
    replace H := oA H
    obtain ⟨_, H⟩ := H
    refine aA ?_
    refine exB ?_
    refine aA ?_
    refine exB ?_
    refine brI H ?_ ?_ <;> clear H <;> intro _ H
    ·exact E H
    ·exact hL0 _ _ _ _ _ _ H (by omega) (cI [] [] [])
   ·exact E H
/-! impl_SameRelation -/
noncomputable def lv90 : Nat → List Nat := atL []
noncomputable def dr90 : Nat → Dr := atD []
theorem ok90 : bodyOk dr90 Try.f90 = true := by kernel_rfl
set_option maxHeartbeats 8000000 in
theorem impl_SameRelation.pr {k : Nat} {a0_0 : Int} {a0_1 : Int} {l0_2 : List (List Int)} {l0_3 : List Bool} {a1_0 : Int} {a1_1 : Int} {l1_2 : List (List Int)} {l1_3 : List Bool} {r : (Bool)} {n0 : Nat} {c0 : List AV} {n1 : Nat} {n2 : Nat} {c2 : List AV} {n3 : Nat} (H : impl_SameRelation.f k a0_0 a0_1 l0_2 l0_3 a1_0 a1_1 l1_2 l1_3 = some r) (hn0 : n0 = l0_2.length := by exact ln) (hc0 : mapR view c0 = iis l0_2 := by exact vw) (hn1 : n1 = l0_3.length := by exact ln) (hn2 : n2 = l1_2.length := by exact ln) (hc2 : mapR view c2 = iis l1_2 := by exact vw) (hn3 : n3 = l1_3.length := by exact ln) : Promise Try.prog tb 90 [.agg [.int .i64 a0_0, .int .i64 a0_1, .lit n0 c0, .lit n1 (bb l0_3)], .agg [.int .i64 a1_0, .int .i64 a1_1, .lit n2 c2, .lit n3 (bb l1_3)]] (.bool r) := by
  subst hn0
  subst hn1
  subst hn2
  subst hn3
  refine Promise.weak (.cons (weak_agg (.cons (Weak.refl _) <| .cons (Weak.refl _) <| .cons (weak_lit hc0) <| .cons (Weak.refl _) <| .nil)) <| .cons (weak_agg (.cons (Weak.refl _) <| .cons (Weak.refl _) <| .cons (weak_lit hc2) <| .cons (Weak.refl _) <| .nil)) <| .nil) ?_
  have E := @reF _ (fun r : (Bool) => .bool r) r
  refine promise_body tb_ok rfl lv90 dr90 Try.func90 ok90 rfl ?_
  unfold impl_SameRelation.f at H
  refine aA ?_
  refine aA ?_
  refine exV ?_
  refine exV ?_
  refine brI H ?_ ?_ <;> clear H <;> intro _ H
  ·refine brT ?_
   refine exV ?_
   refine brT ?_
   refine brT ?_
   refine exV ?_
   refine brT ?_
   refine brT ?_
   refine brI H ?_ ?_ <;> clear H <;> intro _ H
   ·replace H := oC H
    obtain ⟨_, C0, H⟩ := H
    refine brT ?_
    refine exV ?_
    refine brT ?_
    refine brT ?_
    refine exV ?_
    refine brT ?_
    refine Exists.intro _ (And.intro (slices_EqualFunc_int_int_int_int.pr C0) ?_)
    refine brT ?_
    refine brI H ?_ ?_ <;> clear H <;> intro _ H
    ·replace H := oC H
     obtain ⟨_, C1, H⟩ := H
     refine brT ?_
     refine exV ?_
     refine brT ?_
     refine brT ?_
     refine exV ?_
     refine brT ?_
     refine Exists.intro _ (And.intro (slices_Equal_bool_bool.pr C1) ?_)
     refine brT ?_
     exact E H
    ·refine brF ?_
     refine brF ?_
     refine brF ?_
     refine brF ?_
     refine brF ?_
     exact E H
   ·refine brF ?_
    refine brF ?_
    refine brF ?_
    refine brF ?_
    refine brF ?_
    refine brF ?_
    refine brF ?_
    refine brF ?_
    refine brF ?_
    refine brF ?_
    refine brF ?_
    exact E H
  ·refine brF ?_
   refine brF ?_
   refine brF ?_
   refine brF ?_
   refine brF ?_
   refine brF ?_
   refine brF ?_
   refine brF ?_
   refine brF ?_
   refine brF ?_
   refine brF ?_
   refine brF ?_
   refine brF ?_
   refine brF ?_
   refine brF ?_
   refine brF ?_
   refine brF ?_
   exact E H
/-! impl_AreSameSets -/
noncomputable def lv58 : Nat → List Nat := atL []
noncomputable def dr58 : Nat → Dr := atD [(1, ⟨[], line [0, 1, 2, 3, 4, 5, 6, 7, 9, 8, 10, 11, 12, 13]⟩)]
theorem ok58 : bodyOk dr58 Try.f58 = true := by kernel_rfl
set_option maxHeartbeats 8000000 in
theorem impl_AreSameSets.pr {k : Nat} {a0_0 : Int} {a0_1 : Int} {l0_2 : List (List Int)} {l0_3 : List Bool} {a1_0 : Int} {a1_1 : Int} {l1_2 : List (List Int)} {l1_3 : List Bool} {r : (Bool)} {n0 : Nat} {c0 : List AV} {n1 : Nat} {n2 : Nat} {c2 : List AV} {n3 : Nat} (H : impl_AreSameSets.f k a0_0 a0_1 l0_2 l0_3 a1_0 a1_1 l1_2 l1_3 = some r) (hn0 : n0 = l0_2.length := by exact ln) (hc0 : mapR view c0 = iis l0_2 := by exact vw) (hn1 : n1 = l0_3.length := by exact ln) (hn2 : n2 = l1_2.length := by exact ln) (hc2 : mapR view c2 = iis l1_2 := by exact vw) (hn3 : n3 = l1_3.length := by exact ln) : Promise Try.prog tb 58 [.agg [.int .i64 a0_0, .int .i64 a0_1, .lit n0 c0, .lit n1 (bb l0_3)], .agg [.int .i64 a1_0, .int .i64 a1_1, .lit n2 c2, .lit n3 (bb l1_3)]] (.bool r) := by
  subst hn0
  subst hn1
  subst hn2
  subst hn3
  refine Promise.weak (.cons (weak_agg (.cons (Weak.refl _) <| .cons (Weak.refl _) <| .cons (weak_lit hc0) <| .cons (Weak.refl _) <| .nil)) <| .cons (weak_agg (.cons (Weak.refl _) <| .cons (Weak.refl _) <| .cons (weak_lit hc2) <| .cons (Weak.refl _) <| .nil)) <| .nil) ?_
  have E := @reF _ (fun r : (Bool) => .bool r) r
  refine promise_body tb_ok rfl lv58 dr58 Try.func58 ok58 rfl ?_
  unfold impl_AreSameSets.f at H
  replace H := oC H
  obtain ⟨_, C0, H⟩ := H
  refine aA ?_
  refine aA ?_
  refine leE ?_
  refine aA ?_
  refine Exists.intro _ (And.intro (impl_IsRelation.pr C0) ?_)
  refine brI H ?_ ?_ <;> clear H <;> intro _ H
  ·replace H := oC H
   obtain ⟨_, C1, H⟩ := H
   refine leE ?_
   refine aA ?_
   refine brT ?_
   refine Exists.intro _ (And.intro (impl_IsRelation.pr C1) ?_)
   refine brT ?_
   refine brI H ?_ ?_ <;> clear H <;> intro _ H
   ·replace H := oC H
    obtain ⟨_, C2, H⟩ := H
    replace H := oC H
    obtain ⟨_, C3, H⟩ := H
    replace H := oC H
    obtain ⟨_, C4, H⟩ := H
    refine leE ?_
    refine aA ?_
    refine brT ?_
    refine leE ?_
    refine aA ?_
    refine brT ?_
    refine Exists.intro _ (And.intro (impl_Relation_reduced.pr C2) ?_)
    refine brT ?_
    refine Exists.intro _ (And.intro (impl_Relation_reduced.pr C3) ?_)
    refine brT ?_
    refine Exists.intro _ (And.intro (impl_SameRelation.pr C4) ?_)
    refine brT ?_
    exact E H
   ·refine brF ?_
    refine brF ?_
    refine brF ?_
    refine brF ?_
    refine brF ?_
    exact E H
  ·refine brF ?_
   refine brF ?_
   refine brF ?_
   refine brF ?_
   refine brF ?_
   refine brF ?_
   refine brF ?_
   refine brF ?_
   exact E H
/-! impl_IsInside -/
noncomputable def lv26 : Nat → List Nat := atL []
noncomputable def dr26 : Nat → Dr := atD []
theorem ok26 : bodyOk dr26 Try.f26 = true := by kernel_rfl
set_option maxHeartbeats 8000000 in
theorem impl_IsInside.pr {k : Nat} {a0_0 : Int} {a0_1 : Int} {l0_2 : List (List Int)} {l0_3 : List Bool} {a1_0 : Int} {a1_1 : Int} {l1_2 : List (List Int)} {l1_3 : List Bool} {r : Bool} {n0 : Nat} {c0 : List AV} {n1 : Nat} {n2 : Nat} {c2 : List AV} {n3 : Nat} (H : impl_IsInside.f k a0_0 a0_1 l0_2 l0_3 a1_0 a1_1 l1_2 l1_3 = some r) (hn0 : n0 = l0_2.length := by exact ln) (hc0 : mapR view c0 = iis l0_2 := by exact vw) (hn1 : n1 = l0_3.length := by exact ln) (hn2 : n2 = l1_2.length := by exact ln) (hc2 : mapR view c2 = iis l1_2 := by exact vw) (hn3 : n3 = l1_3.length := by exact ln) : Promise Try.prog tb 26 [.agg [.int .i64 a0_0, .int .i64 a0_1, .lit n0 c0, .lit n1 (bb l0_3)], .agg [.int .i64 a1_0, .int .i64 a1_1, .lit n2 c2, .lit n3 (bb l1_3)]] (.bool r) := by
  subst hn0
  subst hn1
  subst hn2
  subst hn3
  refine Promise.weak (.cons (weak_agg (.cons (Weak.refl _) <| .cons (Weak.refl _) <| .cons (weak_lit hc0) <| .cons (Weak.refl _) <| .nil)) <| .cons (weak_agg (.cons (Weak.refl _) <| .cons (Weak.refl _) <| .cons (weak_lit hc2) <| .cons (Weak.refl _) <| .nil)) <| .nil) ?_
  have E := @reF _ (fun r : Bool => .bool r) r
  refine promise_body tb_ok rfl lv26 dr26 Try.func26 ok26 rfl ?_
  unfold impl_IsInside.f at H
  replace H := oC H
  obtain ⟨_, C0, H⟩ := H
  refine aA ?_
  refine aA ?_
  refine leE ?_
  refine aA ?_
  refine leE ?_
  refine aA ?_
  refine Exists.intro _ (And.intro (impl_BothRelations.pr C0) ?_)
  refine exV ?_
  refine exV ?_
  refine aA ?_
  refine brI H ?_ ?_ <;> clear H <;> intro _ H
  ·replace H := oC H
   obtain ⟨_, C1, H⟩ := H
   refine leE ?_
   refine aA ?_
   refine brT ?_
   refine leE ?_
   refine aA ?_
   refine brT ?_
   refine Exists.intro _ (And.intro (impl_AreSameSets.pr C1) ?_)
   refine brT ?_
   exact E H
  ·refine brF ?_
   refine brF ?_
   refine brF ?_
   exact E H
end Go.Ev
