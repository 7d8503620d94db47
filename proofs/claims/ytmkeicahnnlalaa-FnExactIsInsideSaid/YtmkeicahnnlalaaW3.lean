/- Walks of functions with the plain evaluator: what each computes -/
import Derived.Test.YtmkeicahnnlalaaEh
import Derived.Test.YtmkeicahnnlalaaEp
import Derived.Test.YtmkeicahnnlalaaW0
import Derived.Test.YtmkeicahnnlalaaW1
import Derived.Test.YtmkeicahnnlalaaW2
namespace Go.Ev
open Go.Proofs Go Go.Proofs.YtmkeicahnnlalaaW.PrintWords Go.Proofs.Ytmkeicahnnlalaa.Q
set_option maxRecDepth 100000
set_option linter.unusedVariables false
attribute [local irreducible] br Loop
/-! spec_BothRelations -/
noncomputable def lv20 : Nat → List Nat := atL []
noncomputable def dr20 : Nat → Dr := atD []
theorem ok20 : bodyOk dr20 Try.f20 = true := by kernel_rfl
set_option maxHeartbeats 8000000 in
theorem spec_BothRelations.pr {k : Nat} {a0_0 : Int} {a0_1 : Int} {l0_2 : List (List Int)} {l0_3 : List Bool} {a1_0 : Int} {a1_1 : Int} {l1_2 : List (List Int)} {l1_3 : List Bool} {r : (Int × Int × (List (List Int)) × List Bool × Bool)} {n0 : Nat} {c0 : List AV} {n1 : Nat} {n2 : Nat} {c2 : List AV} {n3 : Nat} (H : spec_BothRelations.f k a0_0 a0_1 l0_2 l0_3 a1_0 a1_1 l1_2 l1_3 = some r) (hn0 : n0 = l0_2.length := by exact ln) (hc0 : mapR view c0 = iis l0_2 := by exact vw) (hn1 : n1 = l0_3.length := by exact ln) (hn2 : n2 = l1_2.length := by exact ln) (hc2 : mapR view c2 = iis l1_2 := by exact vw) (hn3 : n3 = l1_3.length := by exact ln) : Promise Try.prog tb 20 [.agg [.int .i64 a0_0, .int .i64 a0_1, .lit n0 c0, .lit n1 (bb l0_3)], .agg [.int .i64 a1_0, .int .i64 a1_1, .lit n2 c2, .lit n3 (bb l1_3)]] (.tup [.agg [.int .i64 r.1, .int .i64 r.2.1, .own 23 r.2.2.1.length (ois 3 r.2.2.1), .own 4 r.2.2.2.1.length (bb r.2.2.2.1)], .bool r.2.2.2.2]) := by
  subst hn0
  subst hn1
  subst hn2
  subst hn3
  refine Promise.weak (.cons (weak_agg (.cons (Weak.refl _) <| .cons (Weak.refl _) <| .cons (weak_lit hc0) <| .cons (Weak.refl _) <| .nil)) <| .cons (weak_agg (.cons (Weak.refl _) <| .cons (Weak.refl _) <| .cons (weak_lit hc2) <| .cons (Weak.refl _) <| .nil)) <| .nil) ?_
  have E := @reF _ (fun r : (Int × Int × (List (List Int)) × List Bool × Bool) => .tup [.agg [.int .i64 r.1, .int .i64 r.2.1, .own 23 r.2.2.1.length (ois 3 r.2.2.1), .own 4 r.2.2.2.1.length (bb r.2.2.2.1)], .bool r.2.2.2.2]) r
  refine promise_body tb_ok rfl lv20 dr20 Try.func20 ok20 rfl ?_
  unfold spec_BothRelations.f at H
  replace H := oC H
  obtain ⟨_, C0, H⟩ := H
  refine aA ?_
  refine aA ?_
  refine leE ?_
  refine aA ?_
  refine leE ?_
  refine aA ?_
  refine Exists.intro _ (And.intro (spec_l14Both.pr C0) ?_)
  refine exV ?_
  refine exV ?_
  refine aA ?_
  refine leE ?_
  refine aA ?_
  refine aA ?_
  refine leE ?_
  refine aA ?_
  exact E H
/-! spec_EitherRelation -/
noncomputable def lv23 : Nat → List Nat := atL []
noncomputable def dr23 : Nat → Dr := atD []
theorem ok23 : bodyOk dr23 Try.f23 = true := by kernel_rfl
set_option maxHeartbeats 8000000 in
theorem spec_EitherRelation.pr {k : Nat} {a0_0 : Int} {a0_1 : Int} {l0_2 : List (List Int)} {l0_3 : List Bool} {a1_0 : Int} {a1_1 : Int} {l1_2 : List (List Int)} {l1_3 : List Bool} {r : (Int × Int × (List (List Int)) × List Bool × Bool)} {n0 : Nat} {c0 : List AV} {n1 : Nat} {n2 : Nat} {c2 : List AV} {n3 : Nat} (H : spec_EitherRelation.f k a0_0 a0_1 l0_2 l0_3 a1_0 a1_1 l1_2 l1_3 = some r) (hn0 : n0 = l0_2.length := by exact ln) (hc0 : mapR view c0 = iis l0_2 := by exact vw) (hn1 : n1 = l0_3.length := by exact ln) (hn2 : n2 = l1_2.length := by exact ln) (hc2 : mapR view c2 = iis l1_2 := by exact vw) (hn3 : n3 = l1_3.length := by exact ln) : Promise Try.prog tb 23 [.agg [.int .i64 a0_0, .int .i64 a0_1, .lit n0 c0, .lit n1 (bb l0_3)], .agg [.int .i64 a1_0, .int .i64 a1_1, .lit n2 c2, .lit n3 (bb l1_3)]] (.tup [.agg [.int .i64 r.1, .int .i64 r.2.1, .own 23 r.2.2.1.length (ois 3 r.2.2.1), .own 4 r.2.2.2.1.length (bb r.2.2.2.1)], .bool r.2.2.2.2]) := by
  subst hn0
  subst hn1
  subst hn2
  subst hn3
  refine Promise.weak (.cons (weak_agg (.cons (Weak.refl _) <| .cons (Weak.refl _) <| .cons (weak_lit hc0) <| .cons (Weak.refl _) <| .nil)) <| .cons (weak_agg (.cons (Weak.refl _) <| .cons (Weak.refl _) <| .cons (weak_lit hc2) <| .cons (Weak.refl _) <| .nil)) <| .nil) ?_
  have E := @reF _ (fun r : (Int × Int × (List (List Int)) × List Bool × Bool) => .tup [.agg [.int .i64 r.1, .int .i64 r.2.1, .own 23 r.2.2.1.length (ois 3 r.2.2.1), .own 4 r.2.2.2.1.length (bb r.2.2.2.1)], .bool r.2.2.2.2]) r
  refine promise_body tb_ok rfl lv23 dr23 Try.func23 ok23 rfl ?_
  unfold spec_EitherRelation.f at H
  replace H := oC H
  obtain ⟨_, C0, H⟩ := H
  refine aA ?_
  refine aA ?_
  refine leE ?_
  refine aA ?_
  refine leE ?_
  refine aA ?_
  refine Exists.intro _ (And.intro (spec_l14Both.pr C0) ?_)
  refine exV ?_
  refine exV ?_
  refine aA ?_
  refine leE ?_
  refine aA ?_
  refine aA ?_
  refine leE ?_
  refine aA ?_
  exact E H
/-! spec_ReducedRelation -/
noncomputable def lv88 : Nat → List Nat := atL []
noncomputable def dr88 : Nat → Dr := atD []
theorem ok88 : bodyOk dr88 Try.f88 = true := by kernel_rfl
set_option maxHeartbeats 8000000 in
theorem spec_ReducedRelation.pr {k : Nat} {a0_0 : Int} {a0_1 : Int} {l0_2 : List (List Int)} {l0_3 : List Bool} {r : (Int × Int × (List (List Int)) × List Bool × Bool)} {n0 : Nat} {c0 : List AV} {n1 : Nat} (H : spec_ReducedRelation.f k a0_0 a0_1 l0_2 l0_3 = some r) (hn0 : n0 = l0_2.length := by exact ln) (hc0 : mapR view c0 = iis l0_2 := by exact vw) (hn1 : n1 = l0_3.length := by exact ln) : Promise Try.prog tb 88 [.agg [.int .i64 a0_0, .int .i64 a0_1, .lit n0 c0, .lit n1 (bb l0_3)]] (.tup [.agg [.int .i64 r.1, .int .i64 r.2.1, .own 23 r.2.2.1.length (ois 3 r.2.2.1), .own 4 r.2.2.2.1.length (bb r.2.2.2.1)], .bool r.2.2.2.2]) := by
  subst hn0
  subst hn1
  refine Promise.weak (.cons (weak_agg (.cons (Weak.refl _) <| .cons (Weak.refl _) <| .cons (weak_lit hc0) <| .cons (Weak.refl _) <| .nil)) <| .nil) ?_
  have E := @reF _ (fun r : (Int × Int × (List (List Int)) × List Bool × Bool) => .tup [.agg [.int .i64 r.1, .int .i64 r.2.1, .own 23 r.2.2.1.length (ois 3 r.2.2.1), .own 4 r.2.2.2.1.length (bb r.2.2.2.1)], .bool r.2.2.2.2]) r
  refine promise_body tb_ok rfl lv88 dr88 Try.func88 ok88 rfl ?_
  unfold spec_ReducedRelation.f at H
  replace H := oC H
  obtain ⟨_, C0, H⟩ := H
  refine aA ?_
  refine leE ?_
  refine aA ?_
  refine Exists.intro _ (And.intro (spec_IsRelation.pr C0) ?_)
  refine brN H ?_ ?_ <;> clear H <;> intro _ H
  ·refine aA ?_
   refine leE ?_
   refine aA ?_
   exact E H
  ·replace H := oC H
   obtain ⟨_, C1, H⟩ := H
   refine exV ?_
   refine exV ?_
   refine exV ?_
   refine exV ?_
   refine Exists.intro _ (And.intro (spec_l13Reduce.pr C1) ?_)
   refine aA ?_
   refine leE ?_
   refine aA ?_
   exact E H
/-! spec_SameRelation -/
noncomputable def lv89 : Nat → List Nat := atL [(0, [2, 3, 5]), (2, [2, 3, 6])]
noncomputable def dr89 : Nat → Dr := atD [(6, ⟨[], line [0, 1, 2, 3, 4, 5, 6, 7, 8, 9, 10, 11]⟩), (11, ⟨[], line [0, 1, 2, 3, 4, 5, 6, 7, 8, 9, 10]⟩)]
theorem ok89 : bodyOk dr89 Try.f89 = true := by kernel_rfl
set_option maxHeartbeats 8000000 in
theorem spec_SameRelation.pr {k : Nat} {a0_0 : Int} {a0_1 : Int} {l0_2 : List (List Int)} {l0_3 : List Bool} {a1_0 : Int} {a1_1 : Int} {l1_2 : List (List Int)} {l1_3 : List Bool} {r : (Bool)} {n0 : Nat} {c0 : List AV} {n1 : Nat} {n2 : Nat} {c2 : List AV} {n3 : Nat} (H : spec_SameRelation.f k a0_0 a0_1 l0_2 l0_3 a1_0 a1_1 l1_2 l1_3 = some r) (hn0 : n0 = l0_2.length := by exact ln) (hc0 : mapR view c0 = iis l0_2 := by exact vw) (hn1 : n1 = l0_3.length := by exact ln) (hn2 : n2 = l1_2.length := by exact ln) (hc2 : mapR view c2 = iis l1_2 := by exact vw) (hn3 : n3 = l1_3.length := by exact ln) : Promise Try.prog tb 89 [.agg [.int .i64 a0_0, .int .i64 a0_1, .lit n0 c0, .lit n1 (bb l0_3)], .agg [.int .i64 a1_0, .int .i64 a1_1, .lit n2 c2, .lit n3 (bb l1_3)]] (.bool r) := by
  subst hn0
  subst hn1
  subst hn2
  subst hn3
  refine Promise.weak (.cons (weak_agg (.cons (Weak.refl _) <| .cons (Weak.refl _) <| .cons (weak_lit hc0) <| .cons (Weak.refl _) <| .nil)) <| .cons (weak_agg (.cons (Weak.refl _) <| .cons (Weak.refl _) <| .cons (weak_lit hc2) <| .cons (Weak.refl _) <| .nil)) <| .nil) ?_
  have E := @reF _ (fun r : (Bool) => .bool r) r
  refine promise_body tb_ok rfl lv89 dr89 Try.func89 ok89 rfl ?_
  unfold spec_SameRelation.f at H
  refine aA ?_
  refine aA ?_
  refine exV ?_
  refine exV ?_
  refine brN H ?_ ?_ <;> clear H <;> intro _ H
  ·rcases k with _ | k
   · cases H
   rw [spec_SameRelation.j0] at H
   replace H := oT H
   refine brT ?_
   refine brT ?_
   refine brT ?_
   refine brT ?_
   refine brT ?_
   refine brT ?_
   refine brT ?_
   refine brT ?_
   refine brT ?_
   refine brT ?_
   refine brT ?_
   refine brT ?_
   refine brT ?_
   refine brT ?_
   refine brT ?_
   refine brT ?_
   refine brT ?_
   refine brT ?_
   refine brT ?_
   refine brT ?_
   refine brT ?_
   refine brT ?_
   exact E H
  ·refine brF ?_
   refine exV ?_
   refine brF ?_
   refine brF ?_
   refine exV ?_
   refine brF ?_
   refine brF ?_
   refine brN H ?_ ?_ <;> clear H <;> intro _ H
   ·rcases k with _ | k
    · cases H
    rw [spec_SameRelation.j0] at H
    replace H := oT H
    refine brT ?_
    refine brT ?_
    refine brT ?_
    refine brT ?_
    refine brT ?_
    refine brT ?_
    refine brT ?_
    refine brT ?_
    refine brT ?_
    refine brT ?_
    refine brT ?_
    refine brT ?_
    refine brT ?_
    refine brT ?_
    refine brT ?_
    refine brT ?_
    exact E H
   ·refine brF ?_
    refine exV ?_
    refine brF ?_
    refine brF ?_
    refine brF ?_
    refine exV ?_
    refine brF ?_
    refine brF ?_
    refine brF ?_
    refine brN H ?_ ?_ <;> clear H <;> intro _ H
    ·rcases k with _ | k
     · cases H
     rw [spec_SameRelation.j0] at H
     replace H := oT H
     refine brT ?_
     refine brT ?_
     refine brT ?_
     refine brT ?_
     refine brT ?_
     refine brT ?_
     refine brT ?_
     refine brT ?_
     exact E H
    ·rcases k with _ | k
     · cases H
     rw [spec_SameRelation.j0] at H
     refine brF ?_
     refine exV ?_
     refine brF ?_
     refine brF ?_
     refine brF ?_
     refine exV ?_
     refine brF ?_
     refine brF ?_
     refine brF ?_
     refine brI H ?_ ?_ <;> clear H <;> intro _ H
     ·exact E H
     ·refine L9 (fun a5 a755000 a755001 a755002 a755003 a756000 a756001 a756002 a756003 => ⟨asl [(2, .ptr 0 0), (3, .ptr 1 0), (5, .int IntKind.i64 a5)], hp [.box 29 [.int IntKind.i64 a755000, .int IntKind.i64 a755001, .lit a755002.length (iis a755002), .lit a755003.length (bb a755003)], .box 29 [.int IntKind.i64 a756000, .int IntKind.i64 a756001, .lit a756002.length (iis a756002), .lit a756003.length (bb a756003)]]⟩) spec_SameRelation.l0 H (cI [.old 132, .old 148] [.old 132, .old 148] [.old 132, .old 148]) ?_
      clear H
      intro k a5 a755000 a755001 a755002 a755003 a756000 a756001 a756002 a756003 L0 hk H hL0
      rw [spec_SameRelation.l0] at H
      refine exV ?_
      refine brI H ?_ ?_ <;> clear H <;> intro _ H
      ·replace H := oA H
       obtain ⟨_, H⟩ := H
       replace H := oA H
       obtain ⟨_, H⟩ := H
       replace H := oC H
       obtain ⟨_, C0, H⟩ := H
       refine exV ?_
       refine aA ?_
       refine exR ?_
       refine exV ?_
       refine aA ?_
       refine exR ?_
       refine Exists.intro _ (And.intro (spec_l3Same.pr C0) ?_)
       refine brN H ?_ ?_ <;> clear H <;> intro _ H
       ·exact E H
       ·exact hL0 _ _ _ _ _ _ _ _ _ _ _ H (by omega) (cI [.old 0, .old 1] [.old 0, .old 1] [.old 0, .old 1])
      ·refine L9 (fun b6 b755000 b755001 b755002 b755003 b756000 b756001 b756002 b756003 => ⟨asl [(2, .ptr 0 0), (3, .ptr 1 0), (6, .int IntKind.i64 b6)], hp [.box 29 [.int IntKind.i64 b755000, .int IntKind.i64 b755001, .lit b755002.length (iis b755002), .lit b755003.length (bb b755003)], .box 29 [.int IntKind.i64 b756000, .int IntKind.i64 b756001, .lit b756002.length (iis b756002), .lit b756003.length (bb b756003)]]⟩) spec_SameRelation.l1 H (cI [.old 0, .old 1] [.old 0, .old 1] [.old 0, .old 1]) ?_
       clear H
       intro k b6 b755000 b755001 b755002 b755003 b756000 b756001 b756002 b756003 L1 hk H hL1
       rw [spec_SameRelation.l1] at H
       refine exV ?_
       refine brI H ?_ ?_ <;> clear H <;> intro _ H
       ·replace H := oA H
        obtain ⟨_, H⟩ := H
        replace H := oA H
        obtain ⟨_, H⟩ := H
        refine exV ?_
        refine aA ?_
        refine exB ?_
        refine exV ?_
        refine aA ?_
        refine exB ?_
        refine brI H ?_ ?_ <;> clear H <;> intro _ H
        ·exact E H
        ·exact hL1 _ _ _ _ _ _ _ _ _ _ _ H (by omega) (cI [.old 0, .old 1] [.old 0, .old 1] [.old 0, .old 1])
       ·exact E H
end Go.Ev
