/- Walks of functions with the plain evaluator: what each computes -/
import Derived.Test.YtmkeicahnnlalaaEh
import Derived.Test.YtmkeicahnnlalaaEp
import Derived.Test.YtmkeicahnnlalaaW4
import Derived.Test.YtmkeicahnnlalaaW5
namespace Go.Ev
open Go.Proofs Go Go.Proofs.YtmkeicahnnlalaaW.PrintWords Go.Proofs.Ytmkeicahnnlalaa.Q
set_option maxRecDepth 100000
set_option linter.unusedVariables false
attribute [local irreducible] br Loop
/-! impl_combined -/
noncomputable def lv56 : Nat → List Nat := atL [(0, [2, 3, 4, 6, 11, 64, 65, 66])]
noncomputable def dr56 : Nat → Dr := atD [(3, ⟨[], line [0, 1, 2, 3, 4, 6, 7, 8, 9, 10, 11, 12, 13, 5, 14, 15, 16, 17, 18, 19, 20, 21]⟩), (8, ⟨[], line [0, 1, 2, 3, 4, 5, 6, 7, 8, 9, 10, 11, 12, 13]⟩)]
theorem ok56 : bodyOk dr56 Try.f56 = true := by kernel_rfl
set_option maxHeartbeats 8000000 in
theorem impl_combined.pr {k : Nat} {a0_0 : Int} {a0_1 : Int} {l0_2 : List (List Int)} {l0_3 : List Bool} {a1_0 : Int} {a1_1 : Int} {l1_2 : List (List Int)} {l1_3 : List Bool} {a2 : Bool} {r : (Int × Int × List (List Int) × List Bool × Bool)} {n0 : Nat} {c0 : List AV} {n1 : Nat} {n2 : Nat} {c2 : List AV} {n3 : Nat} (H : impl_combined.f k a0_0 a0_1 l0_2 l0_3 a1_0 a1_1 l1_2 l1_3 a2 = some r) (hn0 : n0 = l0_2.length := by exact ln) (hc0 : mapR view c0 = iis l0_2 := by exact vw) (hn1 : n1 = l0_3.length := by exact ln) (hn2 : n2 = l1_2.length := by exact ln) (hc2 : mapR view c2 = iis l1_2 := by exact vw) (hn3 : n3 = l1_3.length := by exact ln) : Promise Try.prog tb 56 [.agg [.int .i64 a0_0, .int .i64 a0_1, .lit n0 c0, .lit n1 (bb l0_3)], .agg [.int .i64 a1_0, .int .i64 a1_1, .lit n2 c2, .lit n3 (bb l1_3)], .bool a2] (.tup [.agg [.int .i64 r.1, .int .i64 r.2.1, .own 23 r.2.2.1.length (ois 3 r.2.2.1), .own 4 r.2.2.2.1.length (bb r.2.2.2.1)], .bool r.2.2.2.2]) := by
  subst hn0
  subst hn1
  subst hn2
  subst hn3
  refine Promise.weak (.cons (weak_agg (.cons (Weak.refl _) <| .cons (Weak.refl _) <| .cons (weak_lit hc0) <| .cons (Weak.refl _) <| .nil)) <| .cons (weak_agg (.cons (Weak.refl _) <| .cons (Weak.refl _) <| .cons (weak_lit hc2) <| .cons (Weak.refl _) <| .nil)) <| .cons (Weak.refl _) <| .nil) ?_
  have E := @reF _ (fun r : (Int × Int × List (List Int) × List Bool × Bool) => .tup [.agg [.int .i64 r.1, .int .i64 r.2.1, .own 23 r.2.2.1.length (ois 3 r.2.2.1), .own 4 r.2.2.2.1.length (bb r.2.2.2.1)], .bool r.2.2.2.2]) r
  refine promise_body tb_ok rfl lv56 dr56 Try.func56 ok56 rfl ?_
  unfold impl_combined.f at H
  replace H := oC H
  obtain ⟨_, C0, H⟩ := H
  refine aA ?_
  refine aA ?_
  refine leE ?_
  refine aA ?_
  refine Exists.intro _ (And.intro (impl_IsRelation.pr C0) ?_)
  refine brN H ?_ ?_ <;> clear H <;> intro _ H
  ·refine brT ?_
   refine brT ?_
   refine brT ?_
   refine brT ?_
   refine brT ?_
   refine brT ?_
   refine brT ?_
   refine brT ?_
   refine brT ?_
   refine brT ?_
   refine brT ?_
   refine brT ?_
   refine brT ?_
   refine brT ?_
   refine brT ?_
   refine brT ?_
   refine aA ?_
   refine leE ?_
   refine aA ?_
   exact E H
  ·replace H := oC H
   obtain ⟨_, C1, H⟩ := H
   refine leE ?_
   refine aA ?_
   refine brF ?_
   refine Exists.intro _ (And.intro (impl_IsRelation.pr C1) ?_)
   refine brF ?_
   refine brF ?_
   refine brN H ?_ ?_ <;> clear H <;> intro _ H
   ·refine brT ?_
    refine brT ?_
    refine brT ?_
    refine brT ?_
    refine brT ?_
    refine brT ?_
    refine brT ?_
    refine brT ?_
    refine brT ?_
    refine brT ?_
    refine brT ?_
    refine brT ?_
    refine aA ?_
    refine leE ?_
    refine aA ?_
    exact E H
   ·refine brF ?_
    refine exV ?_
    refine brF ?_
    refine brF ?_
    refine exV ?_
    refine brF ?_
    refine brF ?_
    refine brN H ?_ ?_ <;> clear H <;> intro _ H
    ·refine brT ?_
     refine brT ?_
     refine brT ?_
     refine brT ?_
     refine brT ?_
     refine brT ?_
     refine aA ?_
     refine leE ?_
     refine aA ?_
     exact E H
    ·refine brF ?_
     refine exV ?_
     refine brF ?_
     refine brF ?_
     refine exV ?_
     refine brF ?_
     refine brF ?_
     refine brN H ?_ ?_ <;> clear H <;> intro _ H
     ·refine aA ?_
      refine leE ?_
      refine aA ?_
      exact E H
     ·replace H := oC H
      obtain ⟨_, C2, H⟩ := H
      replace H := oC H
      obtain ⟨_, C3, H⟩ := H
      refine exV ?_
      refine exV ?_
      refine exV ?_
      refine exV ?_
      refine Exists.intro _ (And.intro (impl_power.pr C2) ?_)
      refine Exists.intro _ (And.intro (impl_pairs.pr C3) ?_)
      refine exV ?_
      refine exV ?_
      refine exV ?_
      refine exV ?_
      refine exV ?_
      refine aA ?_
      refine L16 (fun a2 a64 a65 a66 a903000 a903001 a903002 a903003 a904000 a904001 a904002 a904003 a911000 a911001 a911002 a911003 => ⟨asl [(2, .bool a2), (3, .ptr 0 0), (4, .ptr 1 0), (6, .ptr 2 0), (11, .ptr 3 0), (64, R 4 a64.length), (65, .int IntKind.i64 a65), (66, .int IntKind.i64 a66)], hp [.box 29 [.int IntKind.i64 a903000, .int IntKind.i64 a903001, .lit a903002.length (iis a903002), .lit a903003.length (bb a903003)], .box 29 [.int IntKind.i64 a904000, .int IntKind.i64 a904001, .lit a904002.length (iis a904002), .lit a904003.length (bb a904003)], .box 29 [.int IntKind.i64 0, .int IntKind.i64 0, R 5 0, R 6 0], .box 29 [.int IntKind.i64 a911000, .int IntKind.i64 a911001, R 7 a911002.length, R 8 a911003.length], .row 96 0 false (p2 a64), .row 23 0 false [], .row 4 0 false [], .row 23 0 false (ois 3 a911002), .row 4 0 false (bb a911003)]⟩) impl_combined.l0 H (cI [.old 148, .old 164, .old 196, .old 276, .old 964] [.old 148, .old 164, .old 196, .old 276, .old 964, .nilB 196 2, .nilB 196 3, .old 969, .nilB 276 3] [.old 148, .old 164, .old 196, .old 276, .old 964, .nilB 196 2, .nilB 196 3, .old 969, .nilB 276 3]) ?_
      clear H
      intro k a2 a64 a65 a66 a903000 a903001 a903002 a903003 a904000 a904001 a904002 a904003 a911000 a911001 a911002 a911003 L0 hk H hL0
      rw [impl_combined.l0] at H
      refine brI H ?_ ?_ <;> clear H <;> intro _ H
      ·replace H := oA H
       obtain ⟨_, H⟩ := H
       replace H := oA H
       obtain ⟨_, H⟩ := H
       replace H := oA H
       obtain ⟨_, H⟩ := H
       replace H := oA H
       obtain ⟨_, H⟩ := H
       replace H := oA H
       obtain ⟨_, H⟩ := H
       replace H := oA H
       obtain ⟨_, H⟩ := H
       replace H := oA H
       obtain ⟨_, H⟩ := H
       refine aA ?_
       refine exP ?_
       refine aA ?_
       refine exV ?_
       refine aA ?_
       refine exV ?_
       refine aA ?_
       refine exB ?_
       refine exV ?_
       refine aA ?_
       refine exV ?_
       refine aA ?_
       refine exB ?_
       refine exV ?_
       refine brI H ?_ ?_ <;> clear H <;> intro _ H
       ·refine brT ?_
        refine brI H ?_ ?_ <;> clear H <;> intro _ H
        ·refine brT ?_
         refine brI H ?_ ?_ <;> clear H <;> intro _ H
         ·refine brT ?_
          refine brT ?_
          refine brT ?_
          refine brT ?_
          refine aA ?_
          refine aA ?_
          refine apB ?_
          refine aA ?_
          exact hL0 _ _ _ _ _ _ _ _ _ _ _ _ _ _ _ _ _ _ H (by omega) (cI [.old 0, .old 1, .old 2, .old 3, .old 4] [.old 0, .old 1, .old 2, .old 3, .old 4, .old 5, .old 6, .old 7, .old 8] [.old 0, .old 1, .old 2, .old 3, .old 4, .old 5, .old 6, .old 7, .old 8])
         ·refine brF ?_
          refine brF ?_
          refine brF ?_
          refine brF ?_
          refine brF ?_
          refine brF ?_
          refine brF ?_
          refine brF ?_
          refine aA ?_
          refine aA ?_
          refine apB ?_
          refine aA ?_
          exact hL0 _ _ _ _ _ _ _ _ _ _ _ _ _ _ _ _ _ _ H (by omega) (cI [.old 0, .old 1, .old 2, .old 3, .old 4] [.old 0, .old 1, .old 2, .old 3, .old 4, .old 5, .old 6, .old 7, .old 8] [.old 0, .old 1, .old 2, .old 3, .old 4, .old 5, .old 6, .old 7, .old 8])
        ·refine brF ?_
         refine brF ?_
         refine brF ?_
         refine brF ?_
         refine brF ?_
         refine brF ?_
         refine brF ?_
         refine brF ?_
         refine brF ?_
         refine brF ?_
         refine aA ?_
         refine aA ?_
         refine apB ?_
         refine aA ?_
         exact hL0 _ _ _ _ _ _ _ _ _ _ _ _ _ _ _ _ _ _ H (by omega) (cI [.old 0, .old 1, .old 2, .old 3, .old 4] [.old 0, .old 1, .old 2, .old 3, .old 4, .old 5, .old 6, .old 7, .old 8] [.old 0, .old 1, .old 2, .old 3, .old 4, .old 5, .old 6, .old 7, .old 8])
       ·refine brF ?_
        refine brF ?_
        refine brF ?_
        refine brF ?_
        refine brF ?_
        refine brF ?_
        refine brT ?_
        refine brT ?_
        refine brI H ?_ ?_ <;> clear H <;> intro _ H
        ·refine brT ?_
         refine brT ?_
         refine brF ?_
         refine brT ?_
         refine brF ?_
         refine aA ?_
         refine aA ?_
         refine apB ?_
         refine aA ?_
         exact hL0 _ _ _ _ _ _ _ _ _ _ _ _ _ _ _ _ _ _ H (by omega) (cI [.old 0, .old 1, .old 2, .old 3, .old 4] [.old 0, .old 1, .old 2, .old 3, .old 4, .old 5, .old 6, .old 7, .old 8] [.old 0, .old 1, .old 2, .old 3, .old 4, .old 5, .old 6, .old 7, .old 8])
        ·refine brT ?_
         refine brF ?_
         refine brF ?_
         refine brT ?_
         refine brF ?_
         refine aA ?_
         refine aA ?_
         refine apB ?_
         refine aA ?_
         exact hL0 _ _ _ _ _ _ _ _ _ _ _ _ _ _ _ _ _ _ H (by omega) (cI [.old 0, .old 1, .old 2, .old 3, .old 4] [.old 0, .old 1, .old 2, .old 3, .old 4, .old 5, .old 6, .old 7, .old 8] [.old 0, .old 1, .old 2, .old 3, .old 4, .old 5, .old 6, .old 7, .old 8])
      ·replace H := oC H
       obtain ⟨_, C4, H⟩ := H
       refine leE ?_
       refine aA ?_
       refine Exists.intro _ (And.intro (impl_Relation_limited.pr C4) ?_)
       refine exV ?_
       refine exV ?_
       refine aA ?_
       refine leE ?_
       refine aA ?_
       exact E H
/-! impl_BothRelations -/
noncomputable def lv22 : Nat → List Nat := atL []
noncomputable def dr22 : Nat → Dr := atD []
theorem ok22 : bodyOk dr22 Try.f22 = true := by kernel_rfl
set_option maxHeartbeats 8000000 in
theorem impl_BothRelations.pr {k : Nat} {a0_0 : Int} {a0_1 : Int} {l0_2 : List (List Int)} {l0_3 : List Bool} {a1_0 : Int} {a1_1 : Int} {l1_2 : List (List Int)} {l1_3 : List Bool} {r : (Int × Int × List (List Int) × List Bool × Bool)} {n0 : Nat} {c0 : List AV} {n1 : Nat} {n2 : Nat} {c2 : List AV} {n3 : Nat} (H : impl_BothRelations.f k a0_0 a0_1 l0_2 l0_3 a1_0 a1_1 l1_2 l1_3 = some r) (hn0 : n0 = l0_2.length := by exact ln) (hc0 : mapR view c0 = iis l0_2 := by exact vw) (hn1 : n1 = l0_3.length := by exact ln) (hn2 : n2 = l1_2.length := by exact ln) (hc2 : mapR view c2 = iis l1_2 := by exact vw) (hn3 : n3 = l1_3.length := by exact ln) : Promise Try.prog tb 22 [.agg [.int .i64 a0_0, .int .i64 a0_1, .lit n0 c0, .lit n1 (bb l0_3)], .agg [.int .i64 a1_0, .int .i64 a1_1, .lit n2 c2, .lit n3 (bb l1_3)]] (.tup [.agg [.int .i64 r.1, .int .i64 r.2.1, .own 23 r.2.2.1.length (ois 3 r.2.2.1), .own 4 r.2.2.2.1.length (bb r.2.2.2.1)], .bool r.2.2.2.2]) := by
  subst hn0
  subst hn1
  subst hn2
  subst hn3
  refine Promise.weak (.cons (weak_agg (.cons (Weak.refl _) <| .cons (Weak.refl _) <| .cons (weak_lit hc0) <| .cons (Weak.refl _) <| .nil)) <| .cons (weak_agg (.cons (Weak.refl _) <| .cons (Weak.refl _) <| .cons (weak_lit hc2) <| .cons (Weak.refl _) <| .nil)) <| .nil) ?_
  have E := @reF _ (fun r : (Int × Int × List (List Int) × List Bool × Bool) => .tup [.agg [.int .i64 r.1, .int .i64 r.2.1, .own 23 r.2.2.1.length (ois 3 r.2.2.1), .own 4 r.2.2.2.1.length (bb r.2.2.2.1)], .bool r.2.2.2.2]) r
  refine promise_body tb_ok rfl lv22 dr22 Try.func22 ok22 rfl ?_
  unfold impl_BothRelations.f at H
  replace H := oC H
  obtain ⟨_, C0, H⟩ := H
  refine aA ?_
  refine aA ?_
  refine leE ?_
  refine aA ?_
  refine leE ?_
  refine aA ?_
  refine Exists.intro _ (And.intro (impl_combined.pr C0) ?_)
  refine exV ?_
  refine exV ?_
  refine aA ?_
  refine leE ?_
  refine aA ?_
  exact E H
/-! impl_EitherRelation -/
noncomputable def lv24 : Nat → List Nat := atL []
noncomputable def dr24 : Nat → Dr := atD []
theorem ok24 : bodyOk dr24 Try.f24 = true := by kernel_rfl
set_option maxHeartbeats 8000000 in
theorem impl_EitherRelation.pr {k : Nat} {a0_0 : Int} {a0_1 : Int} {l0_2 : List (List Int)} {l0_3 : List Bool} {a1_0 : Int} {a1_1 : Int} {l1_2 : List (List Int)} {l1_3 : List Bool} {r : (Int × Int × List (List Int) × List Bool × Bool)} {n0 : Nat} {c0 : List AV} {n1 : Nat} {n2 : Nat} {c2 : List AV} {n3 : Nat} (H : impl_EitherRelation.f k a0_0 a0_1 l0_2 l0_3 a1_0 a1_1 l1_2 l1_3 = some r) (hn0 : n0 = l0_2.length := by exact ln) (hc0 : mapR view c0 = iis l0_2 := by exact vw) (hn1 : n1 = l0_3.length := by exact ln) (hn2 : n2 = l1_2.length := by exact ln) (hc2 : mapR view c2 = iis l1_2 := by exact vw) (hn3 : n3 = l1_3.length := by exact ln) : Promise Try.prog tb 24 [.agg [.int .i64 a0_0, .int .i64 a0_1, .lit n0 c0, .lit n1 (bb l0_3)], .agg [.int .i64 a1_0, .int .i64 a1_1, .lit n2 c2, .lit n3 (bb l1_3)]] (.tup [.agg [.int .i64 r.1, .int .i64 r.2.1, .own 23 r.2.2.1.length (ois 3 r.2.2.1), .own 4 r.2.2.2.1.length (bb r.2.2.2.1)], .bool r.2.2.2.2]) := by
  subst hn0
  subst hn1
  subst hn2
  subst hn3
  refine Promise.weak (.cons (weak_agg (.cons (Weak.refl _) <| .cons (Weak.refl _) <| .cons (weak_lit hc0) <| .cons (Weak.refl _) <| .nil)) <| .cons (weak_agg (.cons (Weak.refl _) <| .cons (Weak.refl _) <| .cons (weak_lit hc2) <| .cons (Weak.refl _) <| .nil)) <| .nil) ?_
  have E := @reF _ (fun r : (Int × Int × List (List Int) × List Bool × Bool) => .tup [.agg [.int .i64 r.1, .int .i64 r.2.1, .own 23 r.2.2.1.length (ois 3 r.2.2.1), .own 4 r.2.2.2.1.length (bb r.2.2.2.1)], .bool r.2.2.2.2]) r
  refine promise_body tb_ok rfl lv24 dr24 Try.func24 ok24 rfl ?_
  unfold impl_EitherRelation.f at H
  replace H := oC H
  obtain ⟨_, C0, H⟩ := H
  refine aA ?_
  refine aA ?_
  refine leE ?_
  refine aA ?_
  refine leE ?_
  refine aA ?_
  refine Exists.intro _ (And.intro (impl_combined.pr C0) ?_)
  refine exV ?_
  refine exV ?_
  refine aA ?_
  refine leE ?_
  refine aA ?_
  exact E H
end Go.Ev
