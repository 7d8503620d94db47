/- Walks of functions with the plain evaluator: what each computes -/
import Derived.Test.YtmkeicahnnlalaaEh
import Derived.Test.YtmkeicahnnlalaaEp
import Derived.Test.YtmkeicahnnlalaaW3
namespace Go.Ev
open Go.Proofs Go Go.Proofs.YtmkeicahnnlalaaW.PrintWords Go.Proofs.Ytmkeicahnnlalaa.Q
set_option maxRecDepth 100000
set_option linter.unusedVariables false
attribute [local irreducible] br Loop
/-! spec_AreSameSets -/
noncomputable def lv57 : Nat → List Nat := atL []
noncomputable def dr57 : Nat → Dr := atD []
theorem ok57 : bodyOk dr57 Try.f57 = true := by kernel_rfl
set_option maxHeartbeats 8000000 in
theorem spec_AreSameSets.pr {k : Nat} {a0_0 : Int} {a0_1 : Int} {l0_2 : List (List Int)} {l0_3 : List Bool} {a1_0 : Int} {a1_1 : Int} {l1_2 : List (List Int)} {l1_3 : List Bool} {r : (Bool)} {n0 : Nat} {c0 : List AV} {n1 : Nat} {n2 : Nat} {c2 : List AV} {n3 : Nat} (H : spec_AreSameSets.f k a0_0 a0_1 l0_2 l0_3 a1_0 a1_1 l1_2 l1_3 = some r) (hn0 : n0 = l0_2.length := by exact ln) (hc0 : mapR view c0 = iis l0_2 := by exact vw) (hn1 : n1 = l0_3.length := by exact ln) (hn2 : n2 = l1_2.length := by exact ln) (hc2 : mapR view c2 = iis l1_2 := by exact vw) (hn3 : n3 = l1_3.length := by exact ln) : Promise Try.prog tb 57 [.agg [.int .i64 a0_0, .int .i64 a0_1, .lit n0 c0, .lit n1 (bb l0_3)], .agg [.int .i64 a1_0, .int .i64 a1_1, .lit n2 c2, .lit n3 (bb l1_3)]] (.bool r) := by
  subst hn0
  subst hn1
  subst hn2
  subst hn3
  refine Promise.weak (.cons (weak_agg (.cons (Weak.refl _) <| .cons (Weak.refl _) <| .cons (weak_lit hc0) <| .cons (Weak.refl _) <| .nil)) <| .cons (weak_agg (.cons (Weak.refl _) <| .cons (Weak.refl _) <| .cons (weak_lit hc2) <| .cons (Weak.refl _) <| .nil)) <| .nil) ?_
  have E := @reF _ (fun r : (Bool) => .bool r) r
  refine promise_body tb_ok rfl lv57 dr57 Try.func57 ok57 rfl ?_
  unfold spec_AreSameSets.f at H
  replace H := oC H
  obtain ⟨_, C0, H⟩ := H
  replace H := oC H
  obtain ⟨_, C1, H⟩ := H
  refine aA ?_
  refine aA ?_
  refine leE ?_
  refine aA ?_
  refine Exists.intro _ (And.intro (spec_ReducedRelation.pr C0) ?_)
  refine exV ?_
  refine exV ?_
  refine aA ?_
  refine leE ?_
  refine aA ?_
  refine Exists.intro _ (And.intro (spec_ReducedRelation.pr C1) ?_)
  refine exV ?_
  refine exV ?_
  refine aA ?_
  refine brI H ?_ ?_ <;> clear H <;> intro _ H
  ·refine brT ?_
   refine brI H ?_ ?_ <;> clear H <;> intro _ H
   ·replace H := oC H
    obtain ⟨_, C2, H⟩ := H
    refine leE ?_
    refine aA ?_
    refine brT ?_
    refine leE ?_
    refine aA ?_
    refine brT ?_
    refine Exists.intro _ (And.intro (spec_SameRelation.pr C2) ?_)
    refine brT ?_
    exact E H
   ·refine brF ?_
    refine brF ?_
    refine brF ?_
    exact E H
  ·refine brF ?_
   refine brF ?_
   refine brF ?_
   refine brF ?_
   refine brF ?_
   exact E H
/-! spec_IsInside -/
noncomputable def lv25 : Nat → List Nat := atL []
noncomputable def dr25 : Nat → Dr := atD []
theorem ok25 : bodyOk dr25 Try.f25 = true := by kernel_rfl
set_option maxHeartbeats 8000000 in
theorem spec_IsInside.pr {k : Nat} {a0_0 : Int} {a0_1 : Int} {l0_2 : List (List Int)} {l0_3 : List Bool} {a1_0 : Int} {a1_1 : Int} {l1_2 : List (List Int)} {l1_3 : List Bool} {r : (Bool)} {n0 : Nat} {c0 : List AV} {n1 : Nat} {n2 : Nat} {c2 : List AV} {n3 : Nat} (H : spec_IsInside.f k a0_0 a0_1 l0_2 l0_3 a1_0 a1_1 l1_2 l1_3 = some r) (hn0 : n0 = l0_2.length := by exact ln) (hc0 : mapR view c0 = iis l0_2 := by exact vw) (hn1 : n1 = l0_3.length := by exact ln) (hn2 : n2 = l1_2.length := by exact ln) (hc2 : mapR view c2 = iis l1_2 := by exact vw) (hn3 : n3 = l1_3.length := by exact ln) : Promise Try.prog tb 25 [.agg [.int .i64 a0_0, .int .i64 a0_1, .lit n0 c0, .lit n1 (bb l0_3)], .agg [.int .i64 a1_0, .int .i64 a1_1, .lit n2 c2, .lit n3 (bb l1_3)]] (.bool r) := by
  subst hn0
  subst hn1
  subst hn2
  subst hn3
  refine Promise.weak (.cons (weak_agg (.cons (Weak.refl _) <| .cons (Weak.refl _) <| .cons (weak_lit hc0) <| .cons (Weak.refl _) <| .nil)) <| .cons (weak_agg (.cons (Weak.refl _) <| .cons (Weak.refl _) <| .cons (weak_lit hc2) <| .cons (Weak.refl _) <| .nil)) <| .nil) ?_
  have E := @reF _ (fun r : (Bool) => .bool r) r
  refine promise_body tb_ok rfl lv25 dr25 Try.func25 ok25 rfl ?_
  unfold spec_IsInside.f at H
  replace H := oC H
  obtain ⟨_, C0, H⟩ := H
  refine aA ?_
  refine aA ?_
  refine leE ?_
  refine aA ?_
  refine leE ?_
  refine aA ?_
  refine Exists.intro _ (And.intro (spec_BothRelations.pr C0) ?_)
  refine exV ?_
  refine exV ?_
  refine aA ?_
  refine brI H ?_ ?_ <;> clear H <;> intro _ H
  ·replace H := oC H
   obtain ⟨_, C1, H⟩ := H
   refine leE ?_
   refine aA ?_
   refine brT ?_
   refine leE ?_
   refine aA ?_
   refine brT ?_
   refine Exists.intro _ (And.intro (spec_AreSameSets.pr C1) ?_)
   refine brT ?_
   exact E H
  ·refine brF ?_
   refine brF ?_
   refine brF ?_
   exact E H
/-! impl_isSmallBase -/
noncomputable def lv43 : Nat → List Nat := atL []
noncomputable def dr43 : Nat → Dr := atD []
theorem ok43 : bodyOk dr43 Try.f43 = true := by kernel_rfl
set_option maxHeartbeats 8000000 in
theorem impl_isSmallBase.pr {a0 : Int} {r : (Bool)} (H : impl_isSmallBase.f a0 = some r) : Promise Try.prog tb 43 [.int .i64 a0] (.bool r) := by
  have E := @reF _ (fun r : (Bool) => .bool r) r
  refine promise_body tb_ok rfl lv43 dr43 Try.func43 ok43 rfl ?_
  unfold impl_isSmallBase.f at H
  refine brI H ?_ ?_ <;> clear H <;> intro _ H
  ·refine brT ?_
   refine brT ?_
   exact E H
  ·refine brF ?_
   refine brF ?_
   exact E H
/-! impl_power -/
noncomputable def lv76 : Nat → List Nat := atL [(0, [0, 5, 6, 7])]
noncomputable def dr76 : Nat → Dr := atD []
theorem ok76 : bodyOk dr76 Try.f76 = true := by kernel_rfl
set_option maxHeartbeats 8000000 in
theorem impl_power.pr {k : Nat} {a0 : Int} {a1 : Int} {r : (Int)} (H : impl_power.f k a0 a1 = some r) : Promise Try.prog tb 76 [.int .i64 a0, .int .i64 a1] (.int .i64 r) := by
  have E := @reF _ (fun r : (Int) => .int .i64 r) r
  refine promise_body tb_ok rfl lv76 dr76 Try.func76 ok76 rfl ?_
  unfold impl_power.f at H
  refine L4 (fun a0 a5 a6 a7 => ⟨asl [(0, .int IntKind.i64 a0), (5, .int IntKind.i64 a5), (6, .int IntKind.i64 a6), (7, .int IntKind.i64 a7)], hp []⟩) impl_power.l0 H (cI [] [] []) ?_
  clear H
  intro k a0 a5 a6 a7 L0 hk H hL0
  rw [impl_power.l0] at H
  refine brI H ?_ ?_ <;> clear H <;> intro _ H
  ·exact hL0 _ _ _ _ _ _ H (by omega) (cI [] [] [])
  ·exact E H
/-! impl_IsRelation -/
noncomputable def lv74 : Nat → List Nat := atL [(0, [1, 3, 41, 42, 43]), (2, [1, 3, 41, 42, 43, 55, 56, 57])]
noncomputable def dr74 : Nat → Dr := atD []
theorem ok74 : bodyOk dr74 Try.f74 = true := by kernel_rfl
set_option maxHeartbeats 8000000 in
theorem impl_IsRelation.pr {k : Nat} {a0_0 : Int} {a0_1 : Int} {l0_2 : List (List Int)} {l0_3 : List Bool} {r : (Bool)} {n0 : Nat} {c0 : List AV} {n1 : Nat} (H : impl_IsRelation.f k a0_0 a0_1 l0_2 l0_3 = some r) (hn0 : n0 = l0_2.length := by exact ln) (hc0 : mapR view c0 = iis l0_2 := by exact vw) (hn1 : n1 = l0_3.length := by exact ln) : Promise Try.prog tb 74 [.agg [.int .i64 a0_0, .int .i64 a0_1, .lit n0 c0, .lit n1 (bb l0_3)]] (.bool r) := by
  subst hn0
  subst hn1
  refine Promise.weak (.cons (weak_agg (.cons (Weak.refl _) <| .cons (Weak.refl _) <| .cons (weak_lit hc0) <| .cons (Weak.refl _) <| .nil)) <| .nil) ?_
  have E := @reF _ (fun r : (Bool) => .bool r) r
  refine promise_body tb_ok rfl lv74 dr74 Try.func74 ok74 rfl ?_
  unfold impl_IsRelation.f at H
  replace H := oC H
  obtain ⟨_, C0, H⟩ := H
  refine aA ?_
  refine exV ?_
  refine exV ?_
  refine Exists.intro _ (And.intro (impl_isSmallBase.pr C0) ?_)
  refine brN H ?_ ?_ <;> clear H <;> intro _ H
  ·rcases k with _ | k
   · cases H
   rw [impl_IsRelation.j0] at H
   replace H := oT H
   refine brT ?_
   refine brT ?_
   refine brT ?_
   refine brT ?_
   refine brT ?_
   refine brT ?_
   refine brT ?_
   refine brT ?_
   refine brT ?_
   refine brT ?_
   refine brT ?_
   refine brT ?_
   refine brT ?_
   refine brT ?_
   refine brT ?_
   refine brT ?_
   refine brT ?_
   refine brT ?_
   refine brT ?_
   refine brT ?_
   exact E H
  ·refine brF ?_
   refine exV ?_
   refine brF ?_
   refine brF ?_
   refine brI H ?_ ?_ <;> clear H <;> intro _ H
   ·rcases k with _ | k
    · cases H
    rw [impl_IsRelation.j0] at H
    replace H := oT H
    refine brT ?_
    refine brT ?_
    refine brT ?_
    refine brT ?_
    refine brT ?_
    refine brT ?_
    refine brT ?_
    refine brT ?_
    refine brT ?_
    refine brT ?_
    refine brT ?_
    refine brT ?_
    refine brT ?_
    refine brT ?_
    refine brT ?_
    refine brT ?_
    exact E H
   ·refine brF ?_
    refine exV ?_
    refine brF ?_
    refine brF ?_
    refine brI H ?_ ?_ <;> clear H <;> intro _ H
    ·rcases k with _ | k
     · cases H
     rw [impl_IsRelation.j0] at H
     replace H := oT H
     refine brT ?_
     refine brT ?_
     refine brT ?_
     refine brT ?_
     refine brT ?_
     refine brT ?_
     refine brT ?_
     refine brT ?_
     refine brT ?_
     refine brT ?_
     refine brT ?_
     refine brT ?_
     exact E H
    ·refine brF ?_
     refine brF ?_
     refine brI H ?_ ?_ <;> clear H <;> intro _ H
     ·rcases k with _ | k
      · cases H
      rw [impl_IsRelation.j0] at H
      replace H := oT H
      refine brT ?_
      refine brT ?_
      refine brT ?_
      refine brT ?_
      refine brT ?_
      refine brT ?_
      refine brT ?_
      refine brT ?_
      refine brT ?_
      exact E H
     ·refine brF ?_
      refine brF ?_
      refine brI H ?_ ?_ <;> clear H <;> intro _ H
      ·rcases k with _ | k
       · cases H
       rw [impl_IsRelation.j0] at H
       replace H := oT H
       refine brT ?_
       refine brT ?_
       refine brT ?_
       refine brT ?_
       refine brT ?_
       refine brT ?_
       exact E H
      ·rcases k with _ | k
       · cases H
       rw [impl_IsRelation.j0] at H
       refine brF ?_
       refine exV ?_
       refine brF ?_
       refine brF ?_
       refine brF ?_
       refine brF ?_
       refine brI H ?_ ?_ <;> clear H <;> intro _ H
       ·exact E H
       ·refine exV ?_
        refine L8 (fun a3 a41 a42 a43 a651000 a651001 a651002 a651003 => ⟨asl [(1, .ptr 0 0), (3, .int IntKind.i64 a3), (41, .lit a41.length (iis a41)), (42, .int IntKind.i64 a42), (43, .int IntKind.i64 a43)], hp [.box 29 [.int IntKind.i64 a651000, .int IntKind.i64 a651001, .lit a651002.length (iis a651002), .lit a651003.length (bb a651003)]]⟩) impl_IsRelation.l0 H (cI [.old 116] [.old 116] [.old 116]) ?_
        clear H
        intro k a3 a41 a42 a43 a651000 a651001 a651002 a651003 L0 hk H hL0
        rw [impl_IsRelation.l0] at H
        refine brI H ?_ ?_ <;> clear H <;> intro _ H
        ·replace H := oA H
         obtain ⟨_, H⟩ := H
         replace H := oA H
         obtain ⟨_, H⟩ := H
         replace H := oC H
         obtain ⟨_, C1, H⟩ := H
         refine aA ?_
         refine exR ?_
         refine exV ?_
         refine exV ?_
         refine Exists.intro _ (And.intro (impl_power.pr C1) ?_)
         refine brN H ?_ ?_ <;> clear H <;> intro _ H
         ·exact E H
         ·refine L11 (fun b3 b41 b42 b43 b55 b56 b57 b651000 b651001 b651002 b651003 => ⟨asl [(1, .ptr 0 0), (3, .int IntKind.i64 b3), (41, .lit b41.length (iis b41)), (42, .int IntKind.i64 b42), (43, .int IntKind.i64 b43), (55, .lit b55.length (ii b55)), (56, .int IntKind.i64 b56), (57, .int IntKind.i64 b57)], hp [.box 29 [.int IntKind.i64 b651000, .int IntKind.i64 b651001, .lit b651002.length (iis b651002), .lit b651003.length (bb b651003)]]⟩) impl_IsRelation.l1 H (cI [.old 0] [.old 0] [.old 0]) ?_
          clear H
          intro k b3 b41 b42 b43 b55 b56 b57 b651000 b651001 b651002 b651003 L1 hk H hL1
          rw [impl_IsRelation.l1] at H
          refine brI H ?_ ?_ <;> clear H <;> intro _ H
          ·replace H := oA H
           obtain ⟨_, H⟩ := H
           replace H := oA H
           obtain ⟨_, H⟩ := H
           refine aA ?_
           refine exI ?_
           refine brI H ?_ ?_ <;> clear H <;> intro _ H
           ·refine brT ?_
            refine brT ?_
            refine brT ?_
            refine brT ?_
            exact E H
           ·refine brF ?_
            refine brF ?_
            refine brF ?_
            refine brI H ?_ ?_ <;> clear H <;> intro _ H
            ·exact E H
            ·exact hL1 _ _ _ _ _ _ _ _ _ _ _ _ _ H (by omega) (cI [.old 0] [.old 0] [.old 0])
          ·exact hL0 _ _ _ _ _ _ _ _ _ _ H (by omega) (cI [.old 0] [.old 0] [.old 0])
        ·replace H := oA H
         obtain ⟨_, H⟩ := H
         replace H := oA H
         obtain ⟨_, H⟩ := H
         refine exV ?_
         refine aA ?_
         refine exR (i := 0) ?_
         refine aA ?_
         refine exI (i := 0) ?_
         exact E H
/-! impl_oneIf -/
noncomputable def lv64 : Nat → List Nat := atL []
noncomputable def dr64 : Nat → Dr := atD []
theorem ok64 : bodyOk dr64 Try.f64 = true := by kernel_rfl
set_option maxHeartbeats 8000000 in
theorem impl_oneIf.pr {a0 : Bool} {r : (Int)} (H : impl_oneIf.f a0 = some r) : Promise Try.prog tb 64 [.bool a0] (.int .i64 r) := by
  have E := @reF _ (fun r : (Int) => .int .i64 r) r
  refine promise_body tb_ok rfl lv64 dr64 Try.func64 ok64 rfl ?_
  unfold impl_oneIf.f at H
  refine brI H ?_ ?_ <;> clear H <;> intro _ H
  ·exact E H
  ·exact E H
end Go.Ev
