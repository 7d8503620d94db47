/- Walks of functions with the plain evaluator: what each computes -/
import Derived.Test.YtefelghmmpmigaaEh1
import Derived.Test.YtefelghmmpmigaaEp
import Derived.Test.YtefelghmmpmigaaW0
import Derived.Test.YtefelghmmpmigaaW1
namespace Go.Ev
open Go.Proofs Go Go.Proofs.YtefelghmmpmigaaW.PrintWords Go.Proofs.Ytefelghmmpmigaa.Q
set_option maxRecDepth 100000
set_option linter.unusedVariables false
attribute [local irreducible] br Loop
/-! spec_IsFiniteSet -/
noncomputable def lv28 : Nat → List Nat := atL [(0, [3, 5, 6]), (2, [3, 5, 6, 7]), (4, [3, 5, 6, 7, 8]), (6, [3, 5, 9]), (8, [3, 5, 9, 10, 11]), (10, [3, 5, 9, 10, 12]), (12, [3, 5, 9, 10, 12, 13])]
noncomputable def dr28 : Nat → Dr := atD [(31, ⟨[], line [0, 1, 2, 3, 4, 5, 6, 7, 8, 9, 10]⟩), (33, ⟨[], line [0, 1, 2, 3, 4, 5, 6, 7, 8, 9, 10, 11]⟩)]
theorem ok28 : bodyOk dr28 Try.f28 = true := by kernel_rfl
set_option maxHeartbeats 8000000 in
theorem spec_IsFiniteSet.pr {k : Nat} {a0_0 : Int} {a0_1 : Int} {l0_2 : List (List Int)} {l0_3 : List Bool} {r : (Bool)} {n0 : Nat} {c0 : List AV} {n1 : Nat} (H : spec_IsFiniteSet.f k a0_0 a0_1 l0_2 l0_3 = some r) (hn0 : n0 = l0_2.length := by exact ln) (hc0 : mapR view c0 = iis l0_2 := by exact vw) (hn1 : n1 = l0_3.length := by exact ln) : Promise Try.prog tb 28 [.agg [.int .i64 a0_0, .int .i64 a0_1, .lit n0 c0, .lit n1 (bb l0_3)]] (.bool r) := by
  subst hn0
  subst hn1
  refine Promise.weak (.cons (weak_agg (.cons (Weak.refl _) <| .cons (Weak.refl _) <| .cons (weak_lit hc0) <| .cons (Weak.refl _) <| .nil)) <| .nil) ?_
  have E := @reF _ (fun r : (Bool) => .bool r) r
  refine promise_body tb_ok rfl lv28 dr28 Try.func28 ok28 rfl ?_
  unfold spec_IsFiniteSet.f at H
  replace H := oC H
  obtain ⟨_, C0, H⟩ := H
  refine aA ?_
  refine leE ?_
  refine aA ?_
  refine Exists.intro _ (And.intro (spec_ReducedRelation.pr C0) ?_)
  refine exV ?_
  refine exV ?_
  refine aA ?_
  refine brN H ?_ ?_ <;> clear H <;> intro _ H
  ·exact E H
  ·replace H := oA H
   obtain ⟨_, H⟩ := H
   replace H := oA H
   obtain ⟨_, H⟩ := H
   refine exV ?_
   refine aA ?_
   refine aA ?_
   refine mkB ?_
   refine L6 (fun a5 a6 a470000 a470001 a470002 a470003 => ⟨asl [(3, .ptr 0 0), (5, R 1 a5.length), (6, .int IntKind.i64 a6)], hp [.box 29 [.int IntKind.i64 a470000, .int IntKind.i64 a470001, R 2 a470002.length, R 3 a470003.length], .row 4 0 false (bb a5), .row 23 0 false (ois 3 a470002), .row 4 0 false (bb a470003)]⟩) spec_IsFiniteSet.l0 H (cI [.old 148, .old 500] [.old 148, .old 500, .old 374, .old 375] [.old 148, .old 500, .old 374, .old 375]) ?_
   clear H
   intro k a5 a6 a470000 a470001 a470002 a470003 L0 hk H hL0
   rw [spec_IsFiniteSet.l0] at H
   refine exV ?_
   refine brI H ?_ ?_ <;> clear H <;> intro _ H
   ·refine L7 (fun b5 b6 b7 b470000 b470001 b470002 b470003 => ⟨asl [(3, .ptr 0 0), (5, R 1 b5.length), (6, .int IntKind.i64 b6), (7, .int IntKind.i64 b7)], hp [.box 29 [.int IntKind.i64 b470000, .int IntKind.i64 b470001, R 2 b470002.length, R 3 b470003.length], .row 4 0 false (bb b5), .row 23 0 false (ois 3 b470002), .row 4 0 false (bb b470003)]⟩) spec_IsFiniteSet.l1 H (cI [.old 0, .old 1] [.old 0, .old 1, .old 2, .old 3] [.old 0, .old 1, .old 2, .old 3]) ?_
    clear H
    intro k b5 b6 b7 b470000 b470001 b470002 b470003 L1 hk H hL1
    rw [spec_IsFiniteSet.l1] at H
    refine exV ?_
    refine brI H ?_ ?_ <;> clear H <;> intro _ H
    ·replace H := oA H
     obtain ⟨_, H⟩ := H
     replace H := oA H
     obtain ⟨_, H⟩ := H
     refine aA ?_
     refine exB ?_
     refine brI H ?_ ?_ <;> clear H <;> intro _ H
     ·rcases k with _ | k
      · cases H
      rw [spec_IsFiniteSet.j2] at H
      refine brT ?_
      refine brT ?_
      refine brT ?_
      refine brT ?_
      refine brT ?_
      refine aA ?_
      refine aA ?_
      refine seB ?_
      refine L8 (fun c5 c6 c7 c8 c470000 c470001 c470002 c470003 => ⟨asl [(3, .ptr 0 0), (5, R 1 c5.length), (6, .int IntKind.i64 c6), (7, .int IntKind.i64 c7), (8, .int IntKind.i64 c8)], hp [.box 29 [.int IntKind.i64 c470000, .int IntKind.i64 c470001, R 2 c470002.length, R 3 c470003.length], .row 4 0 false (bb c5), .row 23 0 false (ois 3 c470002), .row 4 0 false (bb c470003)]⟩) spec_IsFiniteSet.l2 H (cI [.old 0, .old 1] [.old 0, .old 1, .old 2, .old 3] [.old 0, .old 1, .old 2, .old 3]) ?_
      clear H
      intro k c5 c6 c7 c8 c470000 c470001 c470002 c470003 L2 hk H hL2
      rw [spec_IsFiniteSet.l2] at H
      replace H := oA H
      obtain ⟨_, H⟩ := H
      replace H := oA H
      obtain ⟨_, H⟩ := H
      refine exV ?_
      refine aA ?_
      refine exO ?_
      refine brI H ?_ ?_ <;> clear H <;> intro _ H
      ·replace H := oA H
       obtain ⟨_, H⟩ := H
       refine aA ?_
       refine exB ?_
       refine brI H ?_ ?_ <;> clear H <;> intro _ H
       ·refine brT ?_
        refine brT ?_
        refine brT ?_
        refine brT ?_
        refine brT ?_
        refine brT ?_
        refine brT ?_
        refine brT ?_
        refine brT ?_
        refine brT ?_
        refine brT ?_
        refine aA ?_
        refine aA ?_
        refine seB ?_
        exact hL2 _ _ _ _ _ _ _ _ _ _ H (by omega) (cI [.old 0, .old 1] [.old 0, .old 1, .old 2, .old 3] [.old 0, .old 1, .old 2, .old 3])
       ·replace H := oA H
        obtain ⟨_, H⟩ := H
        replace H := oA H
        obtain ⟨_, H⟩ := H
        replace H := oA H
        obtain ⟨_, H⟩ := H
        refine brF ?_
        refine brF ?_
        refine exV ?_
        refine brF ?_
        refine brF ?_
        refine aA ?_
        refine brF ?_
        refine exO ?_
        refine brF ?_
        refine brF ?_
        refine aA ?_
        refine brF ?_
        refine exI ?_
        refine brF ?_
        refine aA ?_
        refine brF ?_
        refine exB ?_
        refine brF ?_
        refine aA ?_
        refine aA ?_
        refine seB ?_
        exact hL2 _ _ _ _ _ _ _ _ _ _ H (by omega) (cI [.old 0, .old 1] [.old 0, .old 1, .old 2, .old 3] [.old 0, .old 1, .old 2, .old 3])
      ·exact hL1 _ _ _ _ _ _ _ _ _ H (by omega) (cI [.old 0, .old 1] [.old 0, .old 1, .old 2, .old 3] [.old 0, .old 1, .old 2, .old 3])
     ·replace H := oA H
      obtain ⟨_, H⟩ := H
      rcases k with _ | k
      · cases H
      rw [spec_IsFiniteSet.j2] at H
      refine brF ?_
      refine exV ?_
      refine brF ?_
      refine brF ?_
      refine aA ?_
      refine brF ?_
      refine exB ?_
      refine brF ?_
      refine aA ?_
      refine aA ?_
      refine seB ?_
      refine L8 (fun c5 c6 c7 c8 c470000 c470001 c470002 c470003 => ⟨asl [(3, .ptr 0 0), (5, R 1 c5.length), (6, .int IntKind.i64 c6), (7, .int IntKind.i64 c7), (8, .int IntKind.i64 c8)], hp [.box 29 [.int IntKind.i64 c470000, .int IntKind.i64 c470001, R 2 c470002.length, R 3 c470003.length], .row 4 0 false (bb c5), .row 23 0 false (ois 3 c470002), .row 4 0 false (bb c470003)]⟩) spec_IsFiniteSet.l2 H (cI [.old 0, .old 1] [.old 0, .old 1, .old 2, .old 3] [.old 0, .old 1, .old 2, .old 3]) ?_
      clear H
      intro k c5 c6 c7 c8 c470000 c470001 c470002 c470003 L2 hk H hL2
      rw [spec_IsFiniteSet.l2] at H
      replace H := oA H
      obtain ⟨_, H⟩ := H
      replace H := oA H
      obtain ⟨_, H⟩ := H
      refine exV ?_
      refine aA ?_
      refine exO ?_
      refine brI H ?_ ?_ <;> clear H <;> intro _ H
      ·replace H := oA H
       obtain ⟨_, H⟩ := H
       refine aA ?_
       refine exB ?_
       refine brI H ?_ ?_ <;> clear H <;> intro _ H
       ·refine brT ?_
        refine brT ?_
        refine brT ?_
        refine brT ?_
        refine brT ?_
        refine brT ?_
        refine brT ?_
        refine brT ?_
        refine brT ?_
        refine brT ?_
        refine brT ?_
        refine aA ?_
        refine aA ?_
        refine seB ?_
        exact hL2 _ _ _ _ _ _ _ _ _ _ H (by omega) (cI [.old 0, .old 1] [.old 0, .old 1, .old 2, .old 3] [.old 0, .old 1, .old 2, .old 3])
       ·replace H := oA H
        obtain ⟨_, H⟩ := H
        replace H := oA H
        obtain ⟨_, H⟩ := H
        replace H := oA H
        obtain ⟨_, H⟩ := H
        refine brF ?_
        refine brF ?_
        refine exV ?_
        refine brF ?_
        refine brF ?_
        refine aA ?_
        refine brF ?_
        refine exO ?_
        refine brF ?_
        refine brF ?_
        refine aA ?_
        refine brF ?_
        refine exI ?_
        refine brF ?_
        refine aA ?_
        refine brF ?_
        refine exB ?_
        refine brF ?_
        refine aA ?_
        refine aA ?_
        refine seB ?_
        exact hL2 _ _ _ _ _ _ _ _ _ _ H (by omega) (cI [.old 0, .old 1] [.old 0, .old 1, .old 2, .old 3] [.old 0, .old 1, .old 2, .old 3])
      ·exact hL1 _ _ _ _ _ _ _ _ _ H (by omega) (cI [.old 0, .old 1] [.old 0, .old 1, .old 2, .old 3] [.old 0, .old 1, .old 2, .old 3])
    ·exact hL0 _ _ _ _ _ _ _ _ H (by omega) (cI [.old 0, .old 1] [.old 0, .old 1, .old 2, .old 3] [.old 0, .old 1, .old 2, .old 3])
   ·refine L6 (fun b5 b9 b470000 b470001 b470002 b470003 => ⟨asl [(3, .ptr 0 0), (5, R 1 b5.length), (9, .int IntKind.i64 b9)], hp [.box 29 [.int IntKind.i64 b470000, .int IntKind.i64 b470001, R 2 b470002.length, R 3 b470003.length], .row 4 0 false (bb b5), .row 23 0 false (ois 3 b470002), .row 4 0 false (bb b470003)]⟩) spec_IsFiniteSet.l3 H (cI [.old 0, .old 1] [.old 0, .old 1, .old 2, .old 3] [.old 0, .old 1, .old 2, .old 3]) ?_
    clear H
    intro k b5 b9 b470000 b470001 b470002 b470003 L1 hk H hL1
    rw [spec_IsFiniteSet.l3] at H
    refine exV ?_
    refine brI H ?_ ?_ <;> clear H <;> intro _ H
    ·refine L8 (fun c5 c9 c10 c11 c470000 c470001 c470002 c470003 => ⟨asl [(3, .ptr 0 0), (5, R 1 c5.length), (9, .int IntKind.i64 c9), (10, R 2 c10.length), (11, .int IntKind.i64 c11)], hp [.box 29 [.int IntKind.i64 c470000, .int IntKind.i64 c470001, R 3 c470002.length, R 4 c470003.length], .row 4 0 false (bb c5), .row 3 0 false (ii c10), .row 23 0 false (ois 3 c470002), .row 4 0 false (bb c470003)]⟩) spec_IsFiniteSet.l4 H (cI [.old 0, .old 1, .old 1556] [.old 0, .old 1, .old 1556, .old 2, .old 3] [.old 0, .old 1, .old 1556, .old 2, .old 3]) ?_
     clear H
     intro k c5 c9 c10 c11 c470000 c470001 c470002 c470003 L2 hk H hL2
     rw [spec_IsFiniteSet.l4] at H
     replace H := oA H
     obtain ⟨_, H⟩ := H
     replace H := oA H
     obtain ⟨_, H⟩ := H
     refine exV ?_
     refine aA ?_
     refine exO ?_
     refine brI H ?_ ?_ <;> clear H <;> intro _ H
     ·replace H := oA H
      obtain ⟨_, H⟩ := H
      rcases k with _ | k
      · cases H
      rw [spec_IsFiniteSet.j6] at H
      refine brT ?_
      refine brT ?_
      refine aA ?_
      refine brT ?_
      refine exB ?_
      refine brT ?_
      refine brI H ?_ ?_ <;> clear H <;> intro _ H
      ·refine brI H ?_ ?_ <;> clear H <;> intro _ H
       ·replace H := oA H
        obtain ⟨_, H⟩ := H
        replace H := oA H
        obtain ⟨_, H⟩ := H
        replace H := oA H
        obtain ⟨_, H⟩ := H
        replace H := oA H
        obtain ⟨_, H⟩ := H
        replace H := oA H
        obtain ⟨_, H⟩ := H
        replace H := oA H
        obtain ⟨_, H⟩ := H
        refine brT ?_
        refine brT ?_
        refine brT ?_
        refine brT ?_
        refine brT ?_
        refine exV ?_
        refine brT ?_
        refine brT ?_
        refine aA ?_
        refine brT ?_
        refine exO ?_
        refine brT ?_
        refine brT ?_
        refine aA ?_
        refine brT ?_
        refine exI ?_
        refine brT ?_
        refine aA ?_
        refine brT ?_
        refine exB ?_
        refine brT ?_
        refine brI H ?_ ?_ <;> clear H <;> intro _ H
        ·replace H := oC H
         obtain ⟨_, C1, H⟩ := H
         refine brT ?_
         refine brT ?_
         refine exV ?_
         refine brT ?_
         refine brT ?_
         refine aA ?_
         refine brT ?_
         refine exO ?_
         refine brT ?_
         refine brT ?_
         refine aA ?_
         refine brT ?_
         refine exI ?_
         refine brT ?_
         refine Exists.intro _ (And.intro (spec_l4Has.pr C1) ?_)
         refine brT ?_
         refine brT ?_
         refine brN H ?_ ?_ <;> clear H <;> intro _ H
         ·replace H := oA H
          obtain ⟨_, H⟩ := H
          refine exV ?_
          refine aA ?_
          refine exO ?_
          refine aA ?_
          refine exI ?_
          refine aA ?_
          refine aA ?_
          refine apI ?_
          exact hL2 _ _ _ _ _ _ _ _ _ _ H (by omega) (cI [.old 0, .old 1, .old 2] [.old 0, .old 1, .old 2, .old 3, .old 4] [.old 0, .old 1, .old 2, .old 3, .old 4])
         ·exact hL2 _ _ _ _ _ _ _ _ _ _ H (by omega) (cI [.old 0, .old 1, .old 2] [.old 0, .old 1, .old 2, .old 3, .old 4] [.old 0, .old 1, .old 2, .old 3, .old 4])
        ·refine brF ?_
         refine brF ?_
         refine brF ?_
         refine brF ?_
         refine brF ?_
         refine brF ?_
         refine brF ?_
         refine brF ?_
         refine brF ?_
         refine brF ?_
         refine brF ?_
         refine brF ?_
         exact hL2 _ _ _ _ _ _ _ _ _ _ H (by omega) (cI [.old 0, .old 1, .old 2] [.old 0, .old 1, .old 2, .old 3, .old 4] [.old 0, .old 1, .old 2, .old 3, .old 4])
       ·refine brF ?_
        refine brF ?_
        refine brI H ?_ ?_ <;> clear H <;> intro _ H
        ·replace H := oA H
         obtain ⟨_, H⟩ := H
         replace H := oA H
         obtain ⟨_, H⟩ := H
         replace H := oA H
         obtain ⟨_, H⟩ := H
         replace H := oA H
         obtain ⟨_, H⟩ := H
         replace H := oA H
         obtain ⟨_, H⟩ := H
         replace H := oA H
         obtain ⟨_, H⟩ := H
         refine brT ?_
         refine brT ?_
         refine exV ?_
         refine brT ?_
         refine brT ?_
         refine aA ?_
         refine brT ?_
         refine exO ?_
         refine brT ?_
         refine brT ?_
         refine aA ?_
         refine brT ?_
         refine exI ?_
         refine brT ?_
         refine aA ?_
         refine brT ?_
         refine exB ?_
         refine brT ?_
         refine brI H ?_ ?_ <;> clear H <;> intro _ H
         ·replace H := oC H
          obtain ⟨_, C1, H⟩ := H
          refine brT ?_
          refine brT ?_
          refine exV ?_
          refine brT ?_
          refine brT ?_
          refine aA ?_
          refine brT ?_
          refine exO ?_
          refine brT ?_
          refine brT ?_
          refine aA ?_
          refine brT ?_
          refine exI ?_
          refine brT ?_
          refine Exists.intro _ (And.intro (spec_l4Has.pr C1) ?_)
          refine brT ?_
          refine brT ?_
          refine brN H ?_ ?_ <;> clear H <;> intro _ H
          ·replace H := oA H
           obtain ⟨_, H⟩ := H
           refine exV ?_
           refine aA ?_
           refine exO ?_
           refine aA ?_
           refine exI ?_
           refine aA ?_
           refine aA ?_
           refine apI ?_
           exact hL2 _ _ _ _ _ _ _ _ _ _ H (by omega) (cI [.old 0, .old 1, .old 2] [.old 0, .old 1, .old 2, .old 3, .old 4] [.old 0, .old 1, .old 2, .old 3, .old 4])
          ·exact hL2 _ _ _ _ _ _ _ _ _ _ H (by omega) (cI [.old 0, .old 1, .old 2] [.old 0, .old 1, .old 2, .old 3, .old 4] [.old 0, .old 1, .old 2, .old 3, .old 4])
         ·refine brF ?_
          refine brF ?_
          refine brF ?_
          refine brF ?_
          refine brF ?_
          refine brF ?_
          refine brF ?_
          refine brF ?_
          refine brF ?_
          refine brF ?_
          refine brF ?_
          refine brF ?_
          exact hL2 _ _ _ _ _ _ _ _ _ _ H (by omega) (cI [.old 0, .old 1, .old 2] [.old 0, .old 1, .old 2, .old 3, .old 4] [.old 0, .old 1, .old 2, .old 3, .old 4])
        ·refine brF ?_
         refine brF ?_
         refine brF ?_
         refine brF ?_
         refine brF ?_
         refine brF ?_
         refine brF ?_
         refine brF ?_
         refine brF ?_
         refine brF ?_
         refine brF ?_
         refine brF ?_
         refine brF ?_
         refine brF ?_
         refine brF ?_
         refine brF ?_
         refine brF ?_
         refine brF ?_
         refine brF ?_
         refine brF ?_
         refine brF ?_
         refine brF ?_
         refine brF ?_
         refine brF ?_
         exact hL2 _ _ _ _ _ _ _ _ _ _ H (by omega) (cI [.old 0, .old 1, .old 2] [.old 0, .old 1, .old 2, .old 3, .old 4] [.old 0, .old 1, .old 2, .old 3, .old 4])
      ·refine L8 (fun d5 d9 d10 d12 d470000 d470001 d470002 d470003 => ⟨asl [(3, .ptr 0 0), (5, R 1 d5.length), (9, .int IntKind.i64 d9), (10, R 2 d10.length), (12, .int IntKind.i64 d12)], hp [.box 29 [.int IntKind.i64 d470000, .int IntKind.i64 d470001, R 3 d470002.length, R 4 d470003.length], .row 4 0 false (bb d5), .row 3 0 false (ii d10), .row 23 0 false (ois 3 d470002), .row 4 0 false (bb d470003)]⟩) spec_IsFiniteSet.l5 H (cI [.old 0, .old 1, .old 2] [.old 0, .old 1, .old 2, .old 3, .old 4] [.old 0, .old 1, .old 2, .old 3, .old 4]) ?_
       clear H
       intro k d5 d9 d10 d12 d470000 d470001 d470002 d470003 L3 hk H hL3
       rw [spec_IsFiniteSet.l5] at H
       refine brI H ?_ ?_ <;> clear H <;> intro _ H
       ·replace H := oA H
        obtain ⟨_, H⟩ := H
        refine aA ?_
        refine exI ?_
        refine brI H ?_ ?_ <;> clear H <;> intro _ H
        ·exact E H
        ·refine L9 (fun e5 e9 e10 e12 e13 e470000 e470001 e470002 e470003 => ⟨asl [(3, .ptr 0 0), (5, R 1 e5.length), (9, .int IntKind.i64 e9), (10, R 2 e10.length), (12, .int IntKind.i64 e12), (13, .int IntKind.i64 e13)], hp [.box 29 [.int IntKind.i64 e470000, .int IntKind.i64 e470001, R 3 e470002.length, R 4 e470003.length], .row 4 0 false (bb e5), .row 3 0 false (ii e10), .row 23 0 false (ois 3 e470002), .row 4 0 false (bb e470003)]⟩) spec_IsFiniteSet.l6 H (cI [.old 0, .old 1, .old 2] [.old 0, .old 1, .old 2, .old 3, .old 4] [.old 0, .old 1, .old 2, .old 3, .old 4]) ?_
         clear H
         intro k e5 e9 e10 e12 e13 e470000 e470001 e470002 e470003 L4 hk H hL4
         rw [spec_IsFiniteSet.l6] at H
         replace H := oA H
         obtain ⟨_, H⟩ := H
         replace H := oA H
         obtain ⟨_, H⟩ := H
         replace H := oA H
         obtain ⟨_, H⟩ := H
         replace H := oA H
         obtain ⟨_, H⟩ := H
         refine exV ?_
         refine aA ?_
         refine exI ?_
         refine aA ?_
         refine exO ?_
         refine brI H ?_ ?_ <;> clear H <;> intro _ H
         ·replace H := oA H
          obtain ⟨_, H⟩ := H
          refine exV ?_
          refine aA ?_
          refine exI ?_
          refine aA ?_
          refine exO ?_
          refine aA ?_
          refine exI ?_
          refine aA ?_
          refine exI ?_
          refine brI H ?_ ?_ <;> clear H <;> intro _ H
          ·replace H := oA H
           obtain ⟨_, H⟩ := H
           replace H := oA H
           obtain ⟨_, H⟩ := H
           refine brT ?_
           refine brT ?_
           refine brT ?_
           refine brT ?_
           refine brT ?_
           refine aA ?_
           refine brT ?_
           refine exB ?_
           refine brT ?_
           refine brI H ?_ ?_ <;> clear H <;> intro _ H
           ·replace H := oC H
            obtain ⟨_, C1, H⟩ := H
            refine brT ?_
            refine brT ?_
            refine Exists.intro _ (And.intro (spec_l4Has.pr C1) ?_)
            refine brT ?_
            refine brT ?_
            refine brN H ?_ ?_ <;> clear H <;> intro _ H
            ·replace H := oA H
             obtain ⟨_, H⟩ := H
             refine aA ?_
             refine aA ?_
             refine apI ?_
             exact hL4 _ _ _ _ _ _ _ _ _ _ _ H (by omega) (cI [.old 0, .old 1, .old 2] [.old 0, .old 1, .old 2, .old 3, .old 4] [.old 0, .old 1, .old 2, .old 3, .old 4])
            ·exact hL4 _ _ _ _ _ _ _ _ _ _ _ H (by omega) (cI [.old 0, .old 1, .old 2] [.old 0, .old 1, .old 2, .old 3, .old 4] [.old 0, .old 1, .old 2, .old 3, .old 4])
           ·refine brF ?_
            refine brF ?_
            refine brF ?_
            refine brF ?_
            refine brF ?_
            exact hL4 _ _ _ _ _ _ _ _ _ _ _ H (by omega) (cI [.old 0, .old 1, .old 2] [.old 0, .old 1, .old 2, .old 3, .old 4] [.old 0, .old 1, .old 2, .old 3, .old 4])
          ·refine brF ?_
           refine brF ?_
           refine brI H ?_ ?_ <;> clear H <;> intro _ H
           ·replace H := oA H
            obtain ⟨_, H⟩ := H
            replace H := oA H
            obtain ⟨_, H⟩ := H
            refine brT ?_
            refine brT ?_
            refine aA ?_
            refine brT ?_
            refine exB ?_
            refine brT ?_
            refine brI H ?_ ?_ <;> clear H <;> intro _ H
            ·replace H := oC H
             obtain ⟨_, C1, H⟩ := H
             refine brT ?_
             refine brT ?_
             refine Exists.intro _ (And.intro (spec_l4Has.pr C1) ?_)
             refine brT ?_
             refine brT ?_
             refine brN H ?_ ?_ <;> clear H <;> intro _ H
             ·replace H := oA H
              obtain ⟨_, H⟩ := H
              refine aA ?_
              refine aA ?_
              refine apI ?_
              exact hL4 _ _ _ _ _ _ _ _ _ _ _ H (by omega) (cI [.old 0, .old 1, .old 2] [.old 0, .old 1, .old 2, .old 3, .old 4] [.old 0, .old 1, .old 2, .old 3, .old 4])
             ·exact hL4 _ _ _ _ _ _ _ _ _ _ _ H (by omega) (cI [.old 0, .old 1, .old 2] [.old 0, .old 1, .old 2, .old 3, .old 4] [.old 0, .old 1, .old 2, .old 3, .old 4])
            ·refine brF ?_
             refine brF ?_
             refine brF ?_
             refine brF ?_
             refine brF ?_
             exact hL4 _ _ _ _ _ _ _ _ _ _ _ H (by omega) (cI [.old 0, .old 1, .old 2] [.old 0, .old 1, .old 2, .old 3, .old 4] [.old 0, .old 1, .old 2, .old 3, .old 4])
           ·refine brF ?_
            refine brF ?_
            refine brF ?_
            refine brF ?_
            refine brF ?_
            refine brF ?_
            refine brF ?_
            refine brF ?_
            refine brF ?_
            refine brF ?_
            exact hL4 _ _ _ _ _ _ _ _ _ _ _ H (by omega) (cI [.old 0, .old 1, .old 2] [.old 0, .old 1, .old 2, .old 3, .old 4] [.old 0, .old 1, .old 2, .old 3, .old 4])
         ·exact hL3 _ _ _ _ _ _ _ _ _ _ H (by omega) (cI [.old 0, .old 1, .old 2] [.old 0, .old 1, .old 2, .old 3, .old 4] [.old 0, .old 1, .old 2, .old 3, .old 4])
       ·exact hL1 _ _ _ _ _ _ _ _ H (by omega) (cI [.old 0, .old 1] [.old 0, .old 1, .old 3, .old 4] [.old 0, .old 1, .old 3, .old 4])
     ·rcases k with _ | k
      · cases H
      rw [spec_IsFiniteSet.j6] at H
      replace H := oF H
      refine brF ?_
      refine brF ?_
      refine brF ?_
      refine brF ?_
      refine brF ?_
      refine L8 (fun d5 d9 d10 d12 d470000 d470001 d470002 d470003 => ⟨asl [(3, .ptr 0 0), (5, R 1 d5.length), (9, .int IntKind.i64 d9), (10, R 2 d10.length), (12, .int IntKind.i64 d12)], hp [.box 29 [.int IntKind.i64 d470000, .int IntKind.i64 d470001, R 3 d470002.length, R 4 d470003.length], .row 4 0 false (bb d5), .row 3 0 false (ii d10), .row 23 0 false (ois 3 d470002), .row 4 0 false (bb d470003)]⟩) spec_IsFiniteSet.l5 H (cI [.old 0, .old 1, .old 2] [.old 0, .old 1, .old 2, .old 3, .old 4] [.old 0, .old 1, .old 2, .old 3, .old 4]) ?_
      clear H
      intro k d5 d9 d10 d12 d470000 d470001 d470002 d470003 L3 hk H hL3
      rw [spec_IsFiniteSet.l5] at H
      refine brI H ?_ ?_ <;> clear H <;> intro _ H
      ·replace H := oA H
       obtain ⟨_, H⟩ := H
       refine aA ?_
       refine exI ?_
       refine brI H ?_ ?_ <;> clear H <;> intro _ H
       ·exact E H
       ·refine L9 (fun e5 e9 e10 e12 e13 e470000 e470001 e470002 e470003 => ⟨asl [(3, .ptr 0 0), (5, R 1 e5.length), (9, .int IntKind.i64 e9), (10, R 2 e10.length), (12, .int IntKind.i64 e12), (13, .int IntKind.i64 e13)], hp [.box 29 [.int IntKind.i64 e470000, .int IntKind.i64 e470001, R 3 e470002.length, R 4 e470003.length], .row 4 0 false (bb e5), .row 3 0 false (ii e10), .row 23 0 false (ois 3 e470002), .row 4 0 false (bb e470003)]⟩) spec_IsFiniteSet.l6 H (cI [.old 0, .old 1, .old 2] [.old 0, .old 1, .old 2, .old 3, .old 4] [.old 0, .old 1, .old 2, .old 3, .old 4]) ?_
        clear H
        intro k e5 e9 e10 e12 e13 e470000 e470001 e470002 e470003 L4 hk H hL4
        rw [spec_IsFiniteSet.l6] at H
        replace H := oA H
        obtain ⟨_, H⟩ := H
        replace H := oA H
        obtain ⟨_, H⟩ := H
        replace H := oA H
        obtain ⟨_, H⟩ := H
        replace H := oA H
        obtain ⟨_, H⟩ := H
        refine exV ?_
        refine aA ?_
        refine exI ?_
        refine aA ?_
        refine exO ?_
        refine brI H ?_ ?_ <;> clear H <;> intro _ H
        ·replace H := oA H
         obtain ⟨_, H⟩ := H
         refine exV ?_
         refine aA ?_
         refine exI ?_
         refine aA ?_
         refine exO ?_
         refine aA ?_
         refine exI ?_
         refine aA ?_
         refine exI ?_
         refine brI H ?_ ?_ <;> clear H <;> intro _ H
         ·replace H := oA H
          obtain ⟨_, H⟩ := H
          replace H := oA H
          obtain ⟨_, H⟩ := H
          refine brT ?_
          refine brT ?_
          refine brT ?_
          refine brT ?_
          refine brT ?_
          refine aA ?_
          refine brT ?_
          refine exB ?_
          refine brT ?_
          refine brI H ?_ ?_ <;> clear H <;> intro _ H
          ·replace H := oC H
           obtain ⟨_, C1, H⟩ := H
           refine brT ?_
           refine brT ?_
           refine Exists.intro _ (And.intro (spec_l4Has.pr C1) ?_)
           refine brT ?_
           refine brT ?_
           refine brN H ?_ ?_ <;> clear H <;> intro _ H
           ·replace H := oA H
            obtain ⟨_, H⟩ := H
            refine aA ?_
            refine aA ?_
            refine apI ?_
            exact hL4 _ _ _ _ _ _ _ _ _ _ _ H (by omega) (cI [.old 0, .old 1, .old 2] [.old 0, .old 1, .old 2, .old 3, .old 4] [.old 0, .old 1, .old 2, .old 3, .old 4])
           ·exact hL4 _ _ _ _ _ _ _ _ _ _ _ H (by omega) (cI [.old 0, .old 1, .old 2] [.old 0, .old 1, .old 2, .old 3, .old 4] [.old 0, .old 1, .old 2, .old 3, .old 4])
          ·refine brF ?_
           refine brF ?_
           refine brF ?_
           refine brF ?_
           refine brF ?_
           exact hL4 _ _ _ _ _ _ _ _ _ _ _ H (by omega) (cI [.old 0, .old 1, .old 2] [.old 0, .old 1, .old 2, .old 3, .old 4] [.old 0, .old 1, .old 2, .old 3, .old 4])
         ·refine brF ?_
          refine brF ?_
          refine brI H ?_ ?_ <;> clear H <;> intro _ H
          ·replace H := oA H
           obtain ⟨_, H⟩ := H
           replace H := oA H
           obtain ⟨_, H⟩ := H
           refine brT ?_
           refine brT ?_
           refine aA ?_
           refine brT ?_
           refine exB ?_
           refine brT ?_
           refine brI H ?_ ?_ <;> clear H <;> intro _ H
           ·replace H := oC H
            obtain ⟨_, C1, H⟩ := H
            refine brT ?_
            refine brT ?_
            refine Exists.intro _ (And.intro (spec_l4Has.pr C1) ?_)
            refine brT ?_
            refine brT ?_
            refine brN H ?_ ?_ <;> clear H <;> intro _ H
            ·replace H := oA H
             obtain ⟨_, H⟩ := H
             refine aA ?_
             refine aA ?_
             refine apI ?_
             exact hL4 _ _ _ _ _ _ _ _ _ _ _ H (by omega) (cI [.old 0, .old 1, .old 2] [.old 0, .old 1, .old 2, .old 3, .old 4] [.old 0, .old 1, .old 2, .old 3, .old 4])
            ·exact hL4 _ _ _ _ _ _ _ _ _ _ _ H (by omega) (cI [.old 0, .old 1, .old 2] [.old 0, .old 1, .old 2, .old 3, .old 4] [.old 0, .old 1, .old 2, .old 3, .old 4])
           ·refine brF ?_
            refine brF ?_
            refine brF ?_
            refine brF ?_
            refine brF ?_
            exact hL4 _ _ _ _ _ _ _ _ _ _ _ H (by omega) (cI [.old 0, .old 1, .old 2] [.old 0, .old 1, .old 2, .old 3, .old 4] [.old 0, .old 1, .old 2, .old 3, .old 4])
          ·refine brF ?_
           refine brF ?_
           refine brF ?_
           refine brF ?_
           refine brF ?_
           refine brF ?_
           refine brF ?_
           refine brF ?_
           refine brF ?_
           refine brF ?_
           exact hL4 _ _ _ _ _ _ _ _ _ _ _ H (by omega) (cI [.old 0, .old 1, .old 2] [.old 0, .old 1, .old 2, .old 3, .old 4] [.old 0, .old 1, .old 2, .old 3, .old 4])
        ·exact hL3 _ _ _ _ _ _ _ _ _ _ H (by omega) (cI [.old 0, .old 1, .old 2] [.old 0, .old 1, .old 2, .old 3, .old 4] [.old 0, .old 1, .old 2, .old 3, .old 4])
      ·exact hL1 _ _ _ _ _ _ _ _ H (by omega) (cI [.old 0, .old 1] [.old 0, .old 1, .old 3, .old 4] [.old 0, .old 1, .old 3, .old 4])
    ·exact E H
/-! impl_isSmallBase -/
noncomputable def lv37 : Nat → List Nat := atL []
noncomputable def dr37 : Nat → Dr := atD []
theorem ok37 : bodyOk dr37 Try.f37 = true := by kernel_rfl
set_option maxHeartbeats 8000000 in
theorem impl_isSmallBase.pr {a0 : Int} {r : (Bool)} (H : impl_isSmallBase.f a0 = some r) : Promise Try.prog tb 37 [.int .i64 a0] (.bool r) := by
  have E := @reF _ (fun r : (Bool) => .bool r) r
  refine promise_body tb_ok rfl lv37 dr37 Try.func37 ok37 rfl ?_
  unfold impl_isSmallBase.f at H
  refine brI H ?_ ?_ <;> clear H <;> intro _ H
  ·refine brT ?_
   refine brT ?_
   exact E H
  ·refine brF ?_
   refine brF ?_
   exact E H
/-! impl_power -/
noncomputable def lv60 : Nat → List Nat := atL [(0, [0, 5, 6, 7])]
noncomputable def dr60 : Nat → Dr := atD []
theorem ok60 : bodyOk dr60 Try.f60 = true := by kernel_rfl
set_option maxHeartbeats 8000000 in
theorem impl_power.pr {k : Nat} {a0 : Int} {a1 : Int} {r : (Int)} (H : impl_power.f k a0 a1 = some r) : Promise Try.prog tb 60 [.int .i64 a0, .int .i64 a1] (.int .i64 r) := by
  have E := @reF _ (fun r : (Int) => .int .i64 r) r
  refine promise_body tb_ok rfl lv60 dr60 Try.func60 ok60 rfl ?_
  unfold impl_power.f at H
  refine L4 (fun a0 a5 a6 a7 => ⟨asl [(0, .int IntKind.i64 a0), (5, .int IntKind.i64 a5), (6, .int IntKind.i64 a6), (7, .int IntKind.i64 a7)], hp []⟩) impl_power.l0 H (cI [] [] []) ?_
  clear H
  intro k a0 a5 a6 a7 L0 hk H hL0
  rw [impl_power.l0] at H
  refine brI H ?_ ?_ <;> clear H <;> intro _ H
  ·exact hL0 _ _ _ _ _ _ H (by omega) (cI [] [] [])
  ·exact E H
/-! impl_IsRelation -/
noncomputable def lv58 : Nat → List Nat := atL [(0, [1, 3, 41, 42, 43]), (2, [1, 3, 41, 42, 43, 55, 56, 57])]
noncomputable def dr58 : Nat → Dr := atD []
theorem ok58 : bodyOk dr58 Try.f58 = true := by kernel_rfl
set_option maxHeartbeats 8000000 in
theorem impl_IsRelation.pr {k : Nat} {a0_0 : Int} {a0_1 : Int} {l0_2 : List (List Int)} {l0_3 : List Bool} {r : (Bool)} {n0 : Nat} {c0 : List AV} {n1 : Nat} (H : impl_IsRelation.f k a0_0 a0_1 l0_2 l0_3 = some r) (hn0 : n0 = l0_2.length := by exact ln) (hc0 : mapR view c0 = iis l0_2 := by exact vw) (hn1 : n1 = l0_3.length := by exact ln) : Promise Try.prog tb 58 [.agg [.int .i64 a0_0, .int .i64 a0_1, .lit n0 c0, .lit n1 (bb l0_3)]] (.bool r) := by
  subst hn0
  subst hn1
  refine Promise.weak (.cons (weak_agg (.cons (Weak.refl _) <| .cons (Weak.refl _) <| .cons (weak_lit hc0) <| .cons (Weak.refl _) <| .nil)) <| .nil) ?_
  have E := @reF _ (fun r : (Bool) => .bool r) r
  refine promise_body tb_ok rfl lv58 dr58 Try.func58 ok58 rfl ?_
  unfold impl_IsRelation.f at H
  replace H := oC H
  obtain ⟨_, C0, H⟩ := H
  refine aA ?_
  refine exV ?_
  refine exV ?_
  refine Exists.intro _ (And.intro (impl_isSmallBase.pr C0) ?_)
  refine brN H ?_ ?_ <;> clear H <;> intro _ H
  ·rcases k with _ | k
   · cases H
   rw [impl_IsRelation.j0] at H
   replace H := oT H
   refine brT ?_
   refine brT ?_
   refine brT ?_
   refine brT ?_
   refine brT ?_
   refine brT ?_
   refine brT ?_
   refine brT ?_
   refine brT ?_
   refine brT ?_
   refine brT ?_
   refine brT ?_
   refine brT ?_
   refine brT ?_
   refine brT ?_
   refine brT ?_
   refine brT ?_
   refine brT ?_
   refine brT ?_
   refine brT ?_
   exact E H
  ·refine brF ?_
   refine exV ?_
   refine brF ?_
   refine brF ?_
   refine brI H ?_ ?_ <;> clear H <;> intro _ H
   ·rcases k with _ | k
    · cases H
    rw [impl_IsRelation.j0] at H
    replace H := oT H
    refine brT ?_
    refine brT ?_
    refine brT ?_
    refine brT ?_
    refine brT ?_
    refine brT ?_
    refine brT ?_
    refine brT ?_
    refine brT ?_
    refine brT ?_
    refine brT ?_
    refine brT ?_
    refine brT ?_
    refine brT ?_
    refine brT ?_
    refine brT ?_
    exact E H
   ·refine brF ?_
    refine exV ?_
    refine brF ?_
    refine brF ?_
    refine brI H ?_ ?_ <;> clear H <;> intro _ H
    ·rcases k with _ | k
     · cases H
     rw [impl_IsRelation.j0] at H
     replace H := oT H
     refine brT ?_
     refine brT ?_
     refine brT ?_
     refine brT ?_
     refine brT ?_
     refine brT ?_
     refine brT ?_
     refine brT ?_
     refine brT ?_
     refine brT ?_
     refine brT ?_
     refine brT ?_
     exact E H
    ·refine brF ?_
     refine brF ?_
     refine brI H ?_ ?_ <;> clear H <;> intro _ H
     ·rcases k with _ | k
      · cases H
      rw [impl_IsRelation.j0] at H
      replace H := oT H
      refine brT ?_
      refine brT ?_
      refine brT ?_
      refine brT ?_
      refine brT ?_
      refine brT ?_
      refine brT ?_
      refine brT ?_
      refine brT ?_
      exact E H
     ·refine brF ?_
      refine brF ?_
      refine brI H ?_ ?_ <;> clear H <;> intro _ H
      ·rcases k with _ | k
       · cases H
       rw [impl_IsRelation.j0] at H
       replace H := oT H
       refine brT ?_
       refine brT ?_
       refine brT ?_
       refine brT ?_
       refine brT ?_
       refine brT ?_
       exact E H
      ·rcases k with _ | k
       · cases H
       rw [impl_IsRelation.j0] at H
       refine brF ?_
       refine exV ?_
       refine brF ?_
       refine brF ?_
       refine brF ?_
       refine brF ?_
       refine brI H ?_ ?_ <;> clear H <;> intro _ H
       ·exact E H
       ·refine exV ?_
        refine L8 (fun a3 a41 a42 a43 a651000 a651001 a651002 a651003 => ⟨asl [(1, .ptr 0 0), (3, .int IntKind.i64 a3), (41, .lit a41.length (iis a41)), (42, .int IntKind.i64 a42), (43, .int IntKind.i64 a43)], hp [.box 29 [.int IntKind.i64 a651000, .int IntKind.i64 a651001, .lit a651002.length (iis a651002), .lit a651003.length (bb a651003)]]⟩) impl_IsRelation.l0 H (cI [.old 116] [.old 116] [.old 116]) ?_
        clear H
        intro k a3 a41 a42 a43 a651000 a651001 a651002 a651003 L0 hk H hL0
        rw [impl_IsRelation.l0] at H
        refine brI H ?_ ?_ <;> clear H <;> intro _ H
        ·replace H := oA H
         obtain ⟨_, H⟩ := H
         replace H := oA H
         obtain ⟨_, H⟩ := H
         replace H := oC H
         obtain ⟨_, C1, H⟩ := H
         refine aA ?_
         refine exR ?_
         refine exV ?_
         refine exV ?_
         refine Exists.intro _ (And.intro (impl_power.pr C1) ?_)
         refine brN H ?_ ?_ <;> clear H <;> intro _ H
         ·exact E H
         ·refine L11 (fun b3 b41 b42 b43 b55 b56 b57 b651000 b651001 b651002 b651003 => ⟨asl [(1, .ptr 0 0), (3, .int IntKind.i64 b3), (41, .lit b41.length (iis b41)), (42, .int IntKind.i64 b42), (43, .int IntKind.i64 b43), (55, .lit b55.length (ii b55)), (56, .int IntKind.i64 b56), (57, .int IntKind.i64 b57)], hp [.box 29 [.int IntKind.i64 b651000, .int IntKind.i64 b651001, .lit b651002.length (iis b651002), .lit b651003.length (bb b651003)]]⟩) impl_IsRelation.l1 H (cI [.old 0] [.old 0] [.old 0]) ?_
          clear H
          intro k b3 b41 b42 b43 b55 b56 b57 b651000 b651001 b651002 b651003 L1 hk H hL1
          rw [impl_IsRelation.l1] at H
          refine brI H ?_ ?_ <;> clear H <;> intro _ H
          ·replace H := oA H
           obtain ⟨_, H⟩ := H
           replace H := oA H
           obtain ⟨_, H⟩ := H
           refine aA ?_
           refine exI ?_
           refine brI H ?_ ?_ <;> clear H <;> intro _ H
           ·refine brT ?_
            refine brT ?_
            refine brT ?_
            refine brT ?_
            exact E H
           ·refine brF ?_
            refine brF ?_
            refine brF ?_
            refine brI H ?_ ?_ <;> clear H <;> intro _ H
            ·exact E H
            ·exact hL1 _ _ _ _ _ _ _ _ _ _ _ _ _ H (by omega) (cI [.old 0] [.old 0] [.old 0])
          ·exact hL0 _ _ _ _ _ _ _ _ _ _ H (by omega) (cI [.old 0] [.old 0] [.old 0])
        ·replace H := oA H
         obtain ⟨_, H⟩ := H
         replace H := oA H
         obtain ⟨_, H⟩ := H
         refine exV ?_
         refine aA ?_
         refine exR (i := 0) ?_
         refine aA ?_
         refine exI (i := 0) ?_
         exact E H
end Go.Ev
