/- Walks of functions with the plain evaluator: what each computes -/
import Derived.Test.YtefelghmmpmigaaEh2
import Derived.Test.YtefelghmmpmigaaEp
import Derived.Test.YtefelghmmpmigaaW0
namespace Go.Ev
open Go.Proofs Go Go.Proofs.YtefelghmmpmigaaW.PrintWords Go.Proofs.Ytefelghmmpmigaa.Q
set_option maxRecDepth 100000
set_option linter.unusedVariables false
attribute [local irreducible] br Loop
/-! spec_MinimalForm -/
noncomputable def lv32 : Nat → List Nat := atL [(0, [2, 4, 6, 7, 8, 9]), (2, [2, 4, 6, 7, 8, 9, 10, 11]), (4, [2, 4, 6, 7, 8, 9, 10, 11, 12, 13, 14])]
noncomputable def dr32 : Nat → Dr := atD [(14, ⟨[], line [0, 1, 2, 3, 4, 5, 6, 7, 8, 9, 10, 11]⟩), (19, ⟨[], line [0, 1, 2, 3, 4, 5, 6, 7, 8, 9, 10, 11]⟩), (26, ⟨[(0, 1, []), (1, 1, [])], line [0, 1, 2, 3, 4, 5, 6, 7, 8, 9, 10, 11, 12, 13]⟩)]
theorem ok32 : bodyOk dr32 Try.f32 = true := by kernel_rfl
set_option maxHeartbeats 8000000 in
theorem spec_MinimalForm.pr {k : Nat} {a0_0 : Int} {l0_1 : List (List Int)} {l0_2 : List Int} {r : (Int × (List (List Int)) × List Int × Bool)} {n0 : Nat} {c0 : List AV} {n1 : Nat} (H : spec_MinimalForm.f k a0_0 l0_1 l0_2 = some r) (hn0 : n0 = l0_1.length := by exact ln) (hc0 : mapR view c0 = iis l0_1 := by exact vw) (hn1 : n1 = l0_2.length := by exact ln) : Promise Try.prog tb 32 [.agg [.int .i64 a0_0, .lit n0 c0, .lit n1 (ii l0_2)]] (.tup [.agg [.int .i64 r.1, .own 23 r.2.1.length (ois 3 r.2.1), .own 3 r.2.2.1.length (ii r.2.2.1)], .bool r.2.2.2]) := by
  subst hn0
  subst hn1
  refine Promise.weak (.cons (weak_agg (.cons (Weak.refl _) <| .cons (weak_lit hc0) <| .cons (Weak.refl _) <| .nil)) <| .nil) ?_
  have E := @reF _ (fun r : (Int × (List (List Int)) × List Int × Bool) => .tup [.agg [.int .i64 r.1, .own 23 r.2.1.length (ois 3 r.2.1), .own 3 r.2.2.1.length (ii r.2.2.1)], .bool r.2.2.2]) r
  refine promise_body tb_ok rfl lv32 dr32 Try.func32 ok32 rfl ?_
  unfold spec_MinimalForm.f at H
  replace H := oC H
  obtain ⟨_, C0, H⟩ := H
  refine aA ?_
  refine leE ?_
  refine aA ?_
  refine Exists.intro _ (And.intro (spec_SteadyForm.pr C0) ?_)
  refine exV ?_
  refine exV ?_
  refine aA ?_
  refine brN H ?_ ?_ <;> clear H <;> intro _ H
  ·refine aA ?_
   refine leE ?_
   refine aA ?_
   exact E H
  ·replace H := oC H
   obtain ⟨_, C1, H⟩ := H
   refine leE ?_
   refine aA ?_
   refine Exists.intro _ (And.intro (spec_StateClasses.pr C1) ?_)
   refine exV ?_
   refine aA ?_
   refine L9 (fun a6 a8 a9 a245000 a245001 a245002 a249000 a249001 a249002 => ⟨asl [(2, .ptr 0 0), (4, .ptr 1 0), (6, R 2 a6.length), (7, .ptr 3 0), (8, R 4 a8.length), (9, .int IntKind.i64 a9)], hp [.box 32 [.int IntKind.i64 0, R 5 0, R 6 0], .box 32 [.int IntKind.i64 a245000, R 7 a245001.length, R 8 a245002.length], .row 3 0 false (ii a6), .box 32 [.int IntKind.i64 a249000, R 9 a249001.length, R 10 a249002.length], .row 3 0 false (ii a8), .row 23 0 false [], .row 3 0 false [], .row 23 0 false (ois 3 a245001), .row 3 0 false (ii a245002), .row 23 0 false (ois 3 a249001), .row 3 0 false (ii a249002)]⟩) spec_MinimalForm.l0 H (cI [.old 132, .old 164, .old 484, .old 212, .old 548] [.old 132, .old 164, .old 484, .old 212, .old 548, .nilB 132 1, .nilB 132 2, .old 373, .old 374, .nilB 212 1, .nilB 212 2] [.old 132, .old 164, .old 484, .old 212, .old 548, .nilB 132 1, .nilB 132 2, .old 373, .old 374, .nilB 212 1, .nilB 212 2]) ?_
   clear H
   intro k a6 a8 a9 a245000 a245001 a245002 a249000 a249001 a249002 L0 hk H hL0
   rw [spec_MinimalForm.l0] at H
   refine brI H ?_ ?_ <;> clear H <;> intro _ H
   ·refine L11 (fun b6 b8 b9 b10 b11 b245000 b245001 b245002 b249000 b249001 b249002 => ⟨asl [(2, .ptr 0 0), (4, .ptr 1 0), (6, R 2 b6.length), (7, .ptr 3 0), (8, R 4 b8.length), (9, .int IntKind.i64 b9), (10, R 5 b10.length), (11, .int IntKind.i64 b11)], hp [.box 32 [.int IntKind.i64 0, R 6 0, R 7 0], .box 32 [.int IntKind.i64 b245000, R 8 b245001.length, R 9 b245002.length], .row 3 0 false (ii b6), .box 32 [.int IntKind.i64 b249000, R 10 b249001.length, R 11 b249002.length], .row 3 0 false (ii b8), .row 3 0 false (ii b10), .row 23 0 false [], .row 3 0 false [], .row 23 0 false (ois 3 b245001), .row 3 0 false (ii b245002), .row 23 0 false (ois 3 b249001), .row 3 0 false (ii b249002)]⟩) spec_MinimalForm.l1 H (cI [.old 0, .old 1, .old 2, .old 3, .old 4, .old 660] [.old 0, .old 1, .old 2, .old 3, .old 4, .old 660, .old 5, .old 6, .old 7, .old 8, .old 9, .old 10] [.old 0, .old 1, .old 2, .old 3, .old 4, .old 660, .old 5, .old 6, .old 7, .old 8, .old 9, .old 10]) ?_
    clear H
    intro k b6 b8 b9 b10 b11 b245000 b245001 b245002 b249000 b249001 b249002 L1 hk H hL1
    rw [spec_MinimalForm.l1] at H
    refine exV ?_
    refine brI H ?_ ?_ <;> clear H <;> intro _ H
    ·replace H := oA H
     obtain ⟨_, H⟩ := H
     replace H := oA H
     obtain ⟨_, H⟩ := H
     replace H := oA H
     obtain ⟨_, H⟩ := H
     replace H := oA H
     obtain ⟨_, H⟩ := H
     replace H := oA H
     obtain ⟨_, H⟩ := H
     replace H := oA H
     obtain ⟨_, H⟩ := H
     refine exV ?_
     refine aA ?_
     refine exI ?_
     refine aA ?_
     refine exO ?_
     refine aA ?_
     refine exI ?_
     refine L14 (fun c6 c8 c9 c10 c11 c12 c13 c14 c245000 c245001 c245002 c249000 c249001 c249002 => ⟨asl [(2, .ptr 0 0), (4, .ptr 1 0), (6, R 2 c6.length), (7, .ptr 3 0), (8, R 4 c8.length), (9, .int IntKind.i64 c9), (10, R 5 c10.length), (11, .int IntKind.i64 c11), (12, .int IntKind.i64 c12), (13, .int IntKind.i64 c13), (14, .int IntKind.i64 c14)], hp [.box 32 [.int IntKind.i64 0, R 6 0, R 7 0], .box 32 [.int IntKind.i64 c245000, R 8 c245001.length, R 9 c245002.length], .row 3 0 false (ii c6), .box 32 [.int IntKind.i64 c249000, R 10 c249001.length, R 11 c249002.length], .row 3 0 false (ii c8), .row 3 0 false (ii c10), .row 23 0 false [], .row 3 0 false [], .row 23 0 false (ois 3 c245001), .row 3 0 false (ii c245002), .row 23 0 false (ois 3 c249001), .row 3 0 false (ii c249002)]⟩) spec_MinimalForm.l2 H (cI [.old 0, .old 1, .old 2, .old 3, .old 4, .old 5] [.old 0, .old 1, .old 2, .old 3, .old 4, .old 5, .old 6, .old 7, .old 8, .old 9, .old 10, .old 11] [.old 0, .old 1, .old 2, .old 3, .old 4, .old 5, .old 6, .old 7, .old 8, .old 9, .old 10, .old 11]) ?_
     clear H
     intro k c6 c8 c9 c10 c11 c12 c13 c14 c245000 c245001 c245002 c249000 c249001 c249002 L2 hk H hL2
     rw [spec_MinimalForm.l2] at H
     refine brI H ?_ ?_ <;> clear H <;> intro _ H
     ·rcases k with _ | k
      · cases H
      rw [spec_MinimalForm.j3] at H
      refine brT ?_
      refine brT ?_
      refine brI H ?_ ?_ <;> clear H <;> intro _ H
      ·replace H := oA H
       obtain ⟨_, H⟩ := H
       replace H := oA H
       obtain ⟨_, H⟩ := H
       replace H := oA H
       obtain ⟨_, H⟩ := H
       replace H := oA H
       obtain ⟨_, H⟩ := H
       replace H := oA H
       obtain ⟨_, H⟩ := H
       replace H := oA H
       obtain ⟨_, H⟩ := H
       refine aA ?_
       refine exI ?_
       refine aA ?_
       refine exI ?_
       refine aA ?_
       refine exI ?_
       refine brI H ?_ ?_ <;> clear H <;> intro _ H
       ·exact hL2 _ _ _ _ _ _ _ _ _ _ _ _ _ _ _ _ H (by omega) (cI [.old 0, .old 1, .old 2, .old 3, .old 4, .old 5] [.old 0, .old 1, .old 2, .old 3, .old 4, .old 5, .old 6, .old 7, .old 8, .old 9, .old 10, .old 11] [.old 0, .old 1, .old 2, .old 3, .old 4, .old 5, .old 6, .old 7, .old 8, .old 9, .old 10, .old 11])
       ·exact hL2 _ _ _ _ _ _ _ _ _ _ _ _ _ _ _ _ H (by omega) (cI [.old 0, .old 1, .old 2, .old 3, .old 4, .old 5] [.old 0, .old 1, .old 2, .old 3, .old 4, .old 5, .old 6, .old 7, .old 8, .old 9, .old 10, .old 11] [.old 0, .old 1, .old 2, .old 3, .old 4, .old 5, .old 6, .old 7, .old 8, .old 9, .old 10, .old 11])
      ·refine brI H ?_ ?_ <;> clear H <;> intro _ H
       ·replace H := oA H
        obtain ⟨_, H⟩ := H
        replace H := oA H
        obtain ⟨_, H⟩ := H
        refine aA ?_
        refine aA ?_
        refine apI ?_
        refine aA ?_
        refine aA ?_
        refine apI ?_
        exact hL1 _ _ _ _ _ _ _ _ _ _ _ _ _ H (by omega) (cI [.old 0, .old 1, .old 2, .old 3, .old 4, .old 5] [.old 0, .old 1, .old 2, .old 3, .old 4, .old 5, .old 6, .old 7, .old 8, .old 9, .old 10, .old 11] [.old 0, .old 1, .old 2, .old 3, .old 4, .old 5, .old 6, .old 7, .old 8, .old 9, .old 10, .old 11])
       ·replace H := oA H
        obtain ⟨_, H⟩ := H
        refine aA ?_
        refine aA ?_
        refine apI ?_
        exact hL1 _ _ _ _ _ _ _ _ _ _ _ _ _ H (by omega) (cI [.old 0, .old 1, .old 2, .old 3, .old 4, .old 5] [.old 0, .old 1, .old 2, .old 3, .old 4, .old 5, .old 6, .old 7, .old 8, .old 9, .old 10, .old 11] [.old 0, .old 1, .old 2, .old 3, .old 4, .old 5, .old 6, .old 7, .old 8, .old 9, .old 10, .old 11])
     ·rcases k with _ | k
      · cases H
      rw [spec_MinimalForm.j3] at H
      replace H := oF H
      refine brF ?_
      refine brF ?_
      refine brF ?_
      refine brI H ?_ ?_ <;> clear H <;> intro _ H
      ·replace H := oA H
       obtain ⟨_, H⟩ := H
       replace H := oA H
       obtain ⟨_, H⟩ := H
       refine aA ?_
       refine aA ?_
       refine apI ?_
       refine aA ?_
       refine aA ?_
       refine apI ?_
       exact hL1 _ _ _ _ _ _ _ _ _ _ _ _ _ H (by omega) (cI [.old 0, .old 1, .old 2, .old 3, .old 4, .old 5] [.old 0, .old 1, .old 2, .old 3, .old 4, .old 5, .old 6, .old 7, .old 8, .old 9, .old 10, .old 11] [.old 0, .old 1, .old 2, .old 3, .old 4, .old 5, .old 6, .old 7, .old 8, .old 9, .old 10, .old 11])
      ·replace H := oA H
       obtain ⟨_, H⟩ := H
       refine aA ?_
       refine aA ?_
       refine apI ?_
       exact hL1 _ _ _ _ _ _ _ _ _ _ _ _ _ H (by omega) (cI [.old 0, .old 1, .old 2, .old 3, .old 4, .old 5] [.old 0, .old 1, .old 2, .old 3, .old 4, .old 5, .old 6, .old 7, .old 8, .old 9, .old 10, .old 11] [.old 0, .old 1, .old 2, .old 3, .old 4, .old 5, .old 6, .old 7, .old 8, .old 9, .old 10, .old 11])
    ·replace H := oA H
     obtain ⟨_, H⟩ := H
     replace H := oA H
     obtain ⟨_, H⟩ := H
     replace H := oA H
     obtain ⟨_, H⟩ := H
     replace H := oA H
     obtain ⟨_, H⟩ := H
     replace H := oA H
     obtain ⟨_, H⟩ := H
     replace H := oA H
     obtain ⟨_, H⟩ := H
     refine exV ?_
     refine aA ?_
     refine apO ?_
     refine aA ?_
     refine exV ?_
     refine exV ?_
     refine aA ?_
     refine exI ?_
     refine aA ?_
     refine exI ?_
     refine aA ?_
     refine aA ?_
     refine apI ?_
     refine aA ?_
     exact hL0 _ _ _ _ _ _ _ _ _ _ _ H (by omega) (cI [.old 0, .old 1, .old 2, .old 3, .old 4] [.old 0, .old 1, .old 2, .old 3, .old 4, .old 6, .old 7, .old 8, .old 9, .old 10, .old 11] [.old 0, .old 1, .old 2, .old 3, .old 4, .old 6, .old 7, .old 8, .old 9, .old 10, .old 11])
   ·refine leE ?_
    refine aA ?_
    refine aA ?_
    refine leE ?_
    refine aA ?_
    exact E H
/-! spec_TermRelation -/
noncomputable def lv10 : Nat → List Nat := atL [(0, [1, 4, 6, 8, 9])]
noncomputable def dr10 : Nat → Dr := atD [(8, ⟨[(0, 1, []), (1, 1, []), (3, 1, []), (4, 1, []), (5, 1, [])], .step 0 (.step 1 (.step 3 (.step 4 (.step 5 (.alt 2 (.step 6 (.step 7 (.step 8 (.step 9 (.step 10 (.step 11 (.step 12 .done))))))) (.step 6 (.alt 2 (.step 7 (.step 8 (.step 9 (.step 10 (.step 11 (.step 12 .done)))))) (.step 7 (.step 2 (.step 8 (.step 9 (.step 10 (.step 11 (.step 12 .done))))))))))))))⟩), (9, ⟨[(0, 1, []), (1, 1, [])], line [0, 1, 2, 3, 4, 5, 6, 7, 8, 9, 10, 11, 12]⟩)]
theorem ok10 : bodyOk dr10 Try.f10 = true := by kernel_rfl
set_option maxHeartbeats 8000000 in
theorem spec_TermRelation.pr {k : Nat} {a0_0 : Int} {l0_1 : List (List Int)} {l0_2 : List Int} {a1 : Int} {r : (Int × Int × List (List Int) × List Bool × Bool)} {n0 : Nat} {c0 : List AV} {n1 : Nat} (H : spec_TermRelation.f k a0_0 l0_1 l0_2 a1 = some r) (hn0 : n0 = l0_1.length := by exact ln) (hc0 : mapR view c0 = iis l0_1 := by exact vw) (hn1 : n1 = l0_2.length := by exact ln) : Promise Try.prog tb 10 [.agg [.int .i64 a0_0, .lit n0 c0, .lit n1 (ii l0_2)], .int .i64 a1] (.tup [.agg [.int .i64 r.1, .int .i64 r.2.1, .own 23 r.2.2.1.length (ois 3 r.2.2.1), .own 4 r.2.2.2.1.length (bb r.2.2.2.1)], .bool r.2.2.2.2]) := by
  subst hn0
  subst hn1
  refine Promise.weak (.cons (weak_agg (.cons (Weak.refl _) <| .cons (weak_lit hc0) <| .cons (Weak.refl _) <| .nil)) <| .cons (Weak.refl _) <| .nil) ?_
  have E := @reF _ (fun r : (Int × Int × List (List Int) × List Bool × Bool) => .tup [.agg [.int .i64 r.1, .int .i64 r.2.1, .own 23 r.2.2.1.length (ois 3 r.2.2.1), .own 4 r.2.2.2.1.length (bb r.2.2.2.1)], .bool r.2.2.2.2]) r
  refine promise_body tb_ok rfl lv10 dr10 Try.func10 ok10 rfl ?_
  unfold spec_TermRelation.f at H
  replace H := oC H
  obtain ⟨_, C0, H⟩ := H
  refine aA ?_
  refine leE ?_
  refine aA ?_
  refine Exists.intro _ (And.intro (spec_MinimalForm.pr C0) ?_)
  refine exV ?_
  refine exV ?_
  refine aA ?_
  refine brN H ?_ ?_ <;> clear H <;> intro _ H
  ·refine brT ?_
   refine brT ?_
   refine brT ?_
   refine brT ?_
   refine brT ?_
   refine brT ?_
   refine brT ?_
   refine brT ?_
   refine brT ?_
   refine aA ?_
   refine leE ?_
   refine aA ?_
   exact E H
  ·replace H := oC H
   obtain ⟨_, C1, H⟩ := H
   refine brF ?_
   refine exV ?_
   refine brF ?_
   refine Exists.intro _ (And.intro (spec_l1In.pr C1) ?_)
   refine brF ?_
   refine brF ?_
   refine brN H ?_ ?_ <;> clear H <;> intro _ H
   ·refine brT ?_
    refine brT ?_
    refine brT ?_
    refine brT ?_
    refine aA ?_
    refine leE ?_
    refine aA ?_
    exact E H
   ·replace H := oC H
    obtain ⟨_, C2, H⟩ := H
    refine brF ?_
    refine Exists.intro _ (And.intro (spec_l1In.pr C2) ?_)
    refine brF ?_
    refine brF ?_
    refine brN H ?_ ?_ <;> clear H <;> intro _ H
    ·refine aA ?_
     refine leE ?_
     refine aA ?_
     exact E H
    ·refine exV ?_
     refine aA ?_
     refine L8 (fun a1 a906000 a906001 a906002 a9 a908000 a908002 a908003 => ⟨asl [(1, .int IntKind.i64 a1), (4, .ptr 0 0), (6, .ptr 1 0), (8, .ptr 2 0), (9, .int IntKind.i64 a9)], hp [.box 29 [.int IntKind.i64 0, .int IntKind.i64 0, R 3 0, R 4 0], .box 32 [.int IntKind.i64 a906000, R 5 a906001.length, R 6 a906002.length], .box 29 [.int IntKind.i64 a908000, .int IntKind.i64 1, R 7 a908002.length, R 8 a908003.length], .row 23 0 false [], .row 4 0 false [], .row 23 0 false (ois 3 a906001), .row 3 0 false (ii a906002), .row 23 0 false (ois 3 a908002), .row 4 0 false (bb a908003)]⟩) spec_TermRelation.l0 H (cI [.old 164, .old 196, .old 228] [.old 164, .old 196, .old 228, .nilB 164 2, .nilB 164 3, .old 293, .old 294, .nilB 228 2, .nilB 228 3] [.old 164, .old 196, .old 228, .nilB 164 2, .nilB 164 3, .old 293, .old 294, .nilB 228 2, .nilB 228 3]) ?_
     clear H
     intro k a1 a906000 a906001 a906002 a9 a908000 a908002 a908003 L0 hk H hL0
     rw [spec_TermRelation.l0] at H
     refine exV ?_
     refine brI H ?_ ?_ <;> clear H <;> intro _ H
     ·replace H := oA H
      obtain ⟨_, H⟩ := H
      replace H := oA H
      obtain ⟨_, H⟩ := H
      replace H := oA H
      obtain ⟨_, H⟩ := H
      replace H := oA H
      obtain ⟨_, H⟩ := H
      replace H := oA H
      obtain ⟨_, H⟩ := H
      refine exV ?_
      refine exV ?_
      refine And.intro ?_ ?_
      ·refine aA ?_
       refine exO ?_
       refine aA ?_
       refine aA ?_
       refine leE ?_
       refine aA ?_
       refine apO ?_
       refine aA ?_
       refine exV ?_
       refine exV ?_
       refine aA ?_
       refine exI ?_
       refine aA ?_
       refine aA ?_
       refine apB ?_
       refine aA ?_
       exact hL0 _ _ _ _ _ _ _ _ _ _ H (by omega) (cI [.old 0, .old 1, .old 2] [.old 0, .old 1, .old 2, .old 3, .old 4, .old 5, .old 6, .old 7, .old 8] [.old 0, .old 1, .old 2, .old 3, .old 4, .old 5, .old 6, .old 7, .old 8])
      ·refine aA ?_
       refine And.intro ?_ ?_
       ·refine exO ?_
        refine aA ?_
        refine aA ?_
        refine leE ?_
        refine aA ?_
        refine apO ?_
        refine aA ?_
        refine exV ?_
        refine exV ?_
        refine aA ?_
        refine exI ?_
        refine aA ?_
        refine aA ?_
        refine apB ?_
        refine aA ?_
        exact hL0 _ _ _ _ _ _ _ _ _ _ H (by omega) (cI [.old 0, .old 1, .old 2] [.old 0, .old 1, .old 2, .old 3, .old 4, .old 5, .old 6, .old 7, .old 8] [.old 0, .old 1, .old 2, .old 3, .old 4, .old 5, .old 6, .old 7, .old 8])
       ·refine exO ?_
        refine aA ?_
        refine aA ?_
        refine leE ?_
        refine aA ?_
        refine apO ?_
        refine aA ?_
        refine exV ?_
        refine exV ?_
        refine aA ?_
        refine exI ?_
        refine aA ?_
        refine aA ?_
        refine apB ?_
        refine aA ?_
        exact hL0 _ _ _ _ _ _ _ _ _ _ H (by omega) (cI [.old 0, .old 1, .old 2] [.old 0, .old 1, .old 2, .old 3, .old 4, .old 5, .old 6, .old 7, .old 8] [.old 0, .old 1, .old 2, .old 3, .old 4, .old 5, .old 6, .old 7, .old 8])
     ·refine leE ?_
      refine aA ?_
      refine aA ?_
      refine leE ?_
      refine aA ?_
      exact E H
/-! laws_toIntS -/
noncomputable def lv35 : Nat → List Nat := atL [(0, [0, 3, 4])]
noncomputable def dr35 : Nat → Dr := atD []
theorem ok35 : bodyOk dr35 Try.f35 = true := by kernel_rfl
set_option maxHeartbeats 8000000 in
theorem laws_toIntS.pr {k : Nat} {l0 : List Int} {r : (List Int)} {n0 : Nat} (H : laws_toIntS.f k l0 = some r) (hn0 : n0 = l0.length := by exact ln) : Promise Try.prog tb 35 [.lit n0 (ii l0)] (.own 3 r.length (ii r)) := by
  subst hn0
  have E := @reF _ (fun r : (List Int) => .own 3 r.length (ii r)) r
  refine promise_body tb_ok rfl lv35 dr35 Try.func35 ok35 rfl ?_
  unfold laws_toIntS.f at H
  replace H := oA H
  obtain ⟨_, H⟩ := H
  replace H := oA H
  obtain ⟨_, H⟩ := H
  refine aA ?_
  refine aA ?_
  refine mkI ?_
  refine L3 (fun a0 a3 a4 => ⟨asl [(0, .lit a0.length (ii a0)), (3, R 0 a3.length), (4, .int IntKind.i64 a4)], hp [.row 3 0 false (ii a3)]⟩) laws_toIntS.l0 H (cI [.old 212] [.old 212] [.old 212]) ?_
  clear H
  intro k a0 a3 a4 L0 hk H hL0
  rw [laws_toIntS.l0] at H
  refine brI H ?_ ?_ <;> clear H <;> intro _ H
  ·replace H := oA H
   obtain ⟨_, H⟩ := H
   replace H := oA H
   obtain ⟨_, H⟩ := H
   refine aA ?_
   refine exI ?_
   refine aA ?_
   refine aA ?_
   refine seI ?_
   exact hL0 _ _ _ _ _ H (by omega) (cI [.old 0] [.old 0] [.old 0])
  ·exact E H
/-! laws_toIntSS -/
noncomputable def lv34 : Nat → List Nat := atL [(0, [0, 3, 4])]
noncomputable def dr34 : Nat → Dr := atD []
theorem ok34 : bodyOk dr34 Try.f34 = true := by kernel_rfl
set_option maxHeartbeats 8000000 in
theorem laws_toIntSS.pr {k : Nat} {l0 : List (List Int)} {r : ((List (List Int)))} {n0 : Nat} {c0 : List AV} (H : laws_toIntSS.f k l0 = some r) (hn0 : n0 = l0.length := by exact ln) (hc0 : mapR view c0 = iis l0 := by exact vw) : Promise Try.prog tb 34 [.lit n0 c0] (.own 23 r.length (ois 3 r)) := by
  subst hn0
  refine Promise.weak (.cons (weak_lit hc0) <| .nil) ?_
  have E := @reF _ (fun r : ((List (List Int))) => .own 23 r.length (ois 3 r)) r
  refine promise_body tb_ok rfl lv34 dr34 Try.func34 ok34 rfl ?_
  unfold laws_toIntSS.f at H
  replace H := oA H
  obtain ⟨_, H⟩ := H
  replace H := oA H
  obtain ⟨_, H⟩ := H
  refine aA ?_
  refine aA ?_
  refine mkO ?_
  refine L3 (fun a0 a3 a4 => ⟨asl [(0, .lit a0.length (iis a0)), (3, R 0 a3.length), (4, .int IntKind.i64 a4)], hp [.row 23 0 false (ois 3 a3)]⟩) laws_toIntSS.l0 H (cI [.old 212] [.old 212] [.old 212]) ?_
  clear H
  intro k a0 a3 a4 L0 hk H hL0
  rw [laws_toIntSS.l0] at H
  refine brI H ?_ ?_ <;> clear H <;> intro _ H
  ·replace H := oA H
   obtain ⟨_, H⟩ := H
   replace H := oC H
   obtain ⟨_, C0, H⟩ := H
   replace H := oA H
   obtain ⟨_, H⟩ := H
   refine aA ?_
   refine exR ?_
   refine Exists.intro _ (And.intro (laws_toIntS.pr C0) ?_)
   refine aA ?_
   refine aA ?_
   refine seO ?_
   exact hL0 _ _ _ _ _ H (by omega) (cI [.old 0] [.old 0] [.old 0])
  ·exact E H
/-! laws_toSequence -/
noncomputable def lv11 : Nat → List Nat := atL []
noncomputable def dr11 : Nat → Dr := atD []
theorem ok11 : bodyOk dr11 Try.f11 = true := by kernel_rfl
set_option maxHeartbeats 8000000 in
theorem laws_toSequence.pr {k : Nat} {a0_0 : Int} {l0_1 : List (List Int)} {l0_2 : List Int} {r : (Int × (List (List Int)) × List Int)} {n0 : Nat} {c0 : List AV} {n1 : Nat} (H : laws_toSequence.f k a0_0 l0_1 l0_2 = some r) (hn0 : n0 = l0_1.length := by exact ln) (hc0 : mapR view c0 = iis l0_1 := by exact vw) (hn1 : n1 = l0_2.length := by exact ln) : Promise Try.prog tb 11 [.agg [.int .i64 a0_0, .lit n0 c0, .lit n1 (ii l0_2)]] (.agg [.int .i64 r.1, .own 23 r.2.1.length (ois 3 r.2.1), .own 3 r.2.2.length (ii r.2.2)]) := by
  subst hn0
  subst hn1
  refine Promise.weak (.cons (weak_agg (.cons (Weak.refl _) <| .cons (weak_lit hc0) <| .cons (Weak.refl _) <| .nil)) <| .nil) ?_
  have E := @reF _ (fun r : (Int × (List (List Int)) × List Int) => .agg [.int .i64 r.1, .own 23 r.2.1.length (ois 3 r.2.1), .own 3 r.2.2.length (ii r.2.2)]) r
  refine promise_body tb_ok rfl lv11 dr11 Try.func11 ok11 rfl ?_
  unfold laws_toSequence.f at H
  replace H := oC H
  obtain ⟨_, C0, H⟩ := H
  replace H := oC H
  obtain ⟨_, C1, H⟩ := H
  refine aA ?_
  refine exV ?_
  refine aA ?_
  refine exV ?_
  refine Exists.intro _ (And.intro (laws_toIntSS.pr C0) ?_)
  refine aA ?_
  refine exV ?_
  refine Exists.intro _ (And.intro (laws_toIntS.pr C1) ?_)
  refine aA ?_
  refine leE ?_
  refine aA ?_
  refine aA ?_
  refine leE ?_
  refine aA ?_
  exact E H
/-! impl_isBase -/
noncomputable def lv96 : Nat → List Nat := atL []
noncomputable def dr96 : Nat → Dr := atD []
theorem ok96 : bodyOk dr96 Try.f96 = true := by kernel_rfl
set_option maxHeartbeats 8000000 in
theorem impl_isBase.pr {a0 : Int} {r : (Bool)} (H : impl_isBase.f a0 = some r) : Promise Try.prog tb 96 [.int .i64 a0] (.bool r) := by
  have E := @reF _ (fun r : (Bool) => .bool r) r
  refine promise_body tb_ok rfl lv96 dr96 Try.func96 ok96 rfl ?_
  unfold impl_isBase.f at H
  refine brI H ?_ ?_ <;> clear H <;> intro _ H
  ·refine brT ?_
   refine brT ?_
   exact E H
  ·refine brF ?_
   refine brF ?_
   exact E H
/-! impl_IsSequence -/
noncomputable def lv88 : Nat → List Nat := atL [(0, [1, 3, 31, 32, 33]), (2, [1, 3, 31, 32, 33, 59, 60, 61])]
noncomputable def dr88 : Nat → Dr := atD []
theorem ok88 : bodyOk dr88 Try.f88 = true := by kernel_rfl
set_option maxHeartbeats 8000000 in
theorem impl_IsSequence.pr {k : Nat} {a0_0 : Int} {l0_1 : List (List Int)} {l0_2 : List Int} {r : (Bool)} {n0 : Nat} {c0 : List AV} {n1 : Nat} (H : impl_IsSequence.f k a0_0 l0_1 l0_2 = some r) (hn0 : n0 = l0_1.length := by exact ln) (hc0 : mapR view c0 = iis l0_1 := by exact vw) (hn1 : n1 = l0_2.length := by exact ln) : Promise Try.prog tb 88 [.agg [.int .i64 a0_0, .lit n0 c0, .lit n1 (ii l0_2)]] (.bool r) := by
  subst hn0
  subst hn1
  refine Promise.weak (.cons (weak_agg (.cons (Weak.refl _) <| .cons (weak_lit hc0) <| .cons (Weak.refl _) <| .nil)) <| .nil) ?_
  have E := @reF _ (fun r : (Bool) => .bool r) r
  refine promise_body tb_ok rfl lv88 dr88 Try.func88 ok88 rfl ?_
  unfold impl_IsSequence.f at H
  replace H := oC H
  obtain ⟨_, C0, H⟩ := H
  refine aA ?_
  refine exV ?_
  refine exV ?_
  refine Exists.intro _ (And.intro (impl_isBase.pr C0) ?_)
  refine brN H ?_ ?_ <;> clear H <;> intro _ H
  ·rcases k with _ | k
   · cases H
   rw [impl_IsSequence.j0] at H
   replace H := oT H
   refine brT ?_
   refine brT ?_
   refine brT ?_
   refine brT ?_
   refine brT ?_
   refine brT ?_
   refine brT ?_
   refine brT ?_
   refine brT ?_
   refine brT ?_
   refine brT ?_
   refine brT ?_
   exact E H
  ·refine brF ?_
   refine brF ?_
   refine brI H ?_ ?_ <;> clear H <;> intro _ H
   ·rcases k with _ | k
    · cases H
    rw [impl_IsSequence.j0] at H
    replace H := oT H
    refine brT ?_
    refine brT ?_
    refine brT ?_
    refine brT ?_
    refine brT ?_
    refine brT ?_
    refine brT ?_
    refine brT ?_
    refine brT ?_
    exact E H
   ·refine brF ?_
    refine brF ?_
    refine brI H ?_ ?_ <;> clear H <;> intro _ H
    ·rcases k with _ | k
     · cases H
     rw [impl_IsSequence.j0] at H
     replace H := oT H
     refine brT ?_
     refine brT ?_
     refine brT ?_
     refine brT ?_
     refine brT ?_
     refine brT ?_
     exact E H
    ·rcases k with _ | k
     · cases H
     rw [impl_IsSequence.j0] at H
     refine brF ?_
     refine exV ?_
     refine brF ?_
     refine brF ?_
     refine brF ?_
     refine brF ?_
     refine brI H ?_ ?_ <;> clear H <;> intro _ H
     ·exact E H
     ·refine exV ?_
      refine L7 (fun a3 a31 a32 a33 a329000 a329001 a329002 => ⟨asl [(1, .ptr 0 0), (3, .int IntKind.i64 a3), (31, .lit a31.length (iis a31)), (32, .int IntKind.i64 a32), (33, .int IntKind.i64 a33)], hp [.box 32 [.int IntKind.i64 a329000, .lit a329001.length (iis a329001), .lit a329002.length (ii a329002)]]⟩) impl_IsSequence.l0 H (cI [.old 116] [.old 116] [.old 116]) ?_
      clear H
      intro k a3 a31 a32 a33 a329000 a329001 a329002 L0 hk H hL0
      rw [impl_IsSequence.l0] at H
      refine brI H ?_ ?_ <;> clear H <;> intro _ H
      ·replace H := oA H
       obtain ⟨_, H⟩ := H
       replace H := oA H
       obtain ⟨_, H⟩ := H
       refine aA ?_
       refine exR ?_
       refine exV ?_
       refine brN H ?_ ?_ <;> clear H <;> intro _ H
       ·rcases k with _ | k
        · cases H
        rw [impl_IsSequence.j2] at H
        replace H := oT H
        refine brT ?_
        refine brT ?_
        refine brT ?_
        refine brT ?_
        refine brT ?_
        refine brT ?_
        refine brT ?_
        refine brT ?_
        refine brT ?_
        refine brT ?_
        refine brT ?_
        refine brT ?_
        refine brT ?_
        refine brT ?_
        exact E H
       ·replace H := oA H
        obtain ⟨_, H⟩ := H
        refine brF ?_
        refine exV ?_
        refine brF ?_
        refine brF ?_
        refine aA ?_
        refine brF ?_
        refine exI ?_
        refine brF ?_
        refine brF ?_
        refine brI H ?_ ?_ <;> clear H <;> intro _ H
        ·rcases k with _ | k
         · cases H
         rw [impl_IsSequence.j2] at H
         replace H := oT H
         refine brT ?_
         refine brT ?_
         refine brT ?_
         refine brT ?_
         refine brT ?_
         refine brT ?_
         refine brT ?_
         exact E H
        ·rcases k with _ | k
         · cases H
         rw [impl_IsSequence.j2] at H
         refine brF ?_
         refine exV ?_
         refine brF ?_
         refine brF ?_
         refine aA ?_
         refine brF ?_
         refine exI ?_
         refine brF ?_
         refine brF ?_
         refine brI H ?_ ?_ <;> clear H <;> intro _ H
         ·exact E H
         ·refine L10 (fun b3 b31 b32 b33 b59 b60 b61 b329000 b329001 b329002 => ⟨asl [(1, .ptr 0 0), (3, .int IntKind.i64 b3), (31, .lit b31.length (iis b31)), (32, .int IntKind.i64 b32), (33, .int IntKind.i64 b33), (59, .lit b59.length (ii b59)), (60, .int IntKind.i64 b60), (61, .int IntKind.i64 b61)], hp [.box 32 [.int IntKind.i64 b329000, .lit b329001.length (iis b329001), .lit b329002.length (ii b329002)]]⟩) impl_IsSequence.l1 H (cI [.old 0] [.old 0] [.old 0]) ?_
          clear H
          intro k b3 b31 b32 b33 b59 b60 b61 b329000 b329001 b329002 L1 hk H hL1
          rw [impl_IsSequence.l1] at H
          refine brI H ?_ ?_ <;> clear H <;> intro _ H
          ·replace H := oA H
           obtain ⟨_, H⟩ := H
           replace H := oA H
           obtain ⟨_, H⟩ := H
           refine aA ?_
           refine exI ?_
           refine brI H ?_ ?_ <;> clear H <;> intro _ H
           ·refine brT ?_
            refine brT ?_
            refine brT ?_
            refine brT ?_
            exact E H
           ·refine brF ?_
            refine brF ?_
            refine brF ?_
            refine brI H ?_ ?_ <;> clear H <;> intro _ H
            ·exact E H
            ·exact hL1 _ _ _ _ _ _ _ _ _ _ _ _ H (by omega) (cI [.old 0] [.old 0] [.old 0])
          ·exact hL0 _ _ _ _ _ _ _ _ _ H (by omega) (cI [.old 0] [.old 0] [.old 0])
      ·exact E H
/-! impl_IsSteady -/
noncomputable def lv89 : Nat → List Nat := atL []
noncomputable def dr89 : Nat → Dr := atD []
theorem ok89 : bodyOk dr89 Try.f89 = true := by kernel_rfl
set_option maxHeartbeats 8000000 in
theorem impl_IsSteady.pr {k : Nat} {a0_0 : Int} {l0_1 : List (List Int)} {l0_2 : List Int} {r : (Bool)} {n0 : Nat} {c0 : List AV} {n1 : Nat} (H : impl_IsSteady.f k a0_0 l0_1 l0_2 = some r) (hn0 : n0 = l0_1.length := by exact ln) (hc0 : mapR view c0 = iis l0_1 := by exact vw) (hn1 : n1 = l0_2.length := by exact ln) : Promise Try.prog tb 89 [.agg [.int .i64 a0_0, .lit n0 c0, .lit n1 (ii l0_2)]] (.bool r) := by
  subst hn0
  subst hn1
  refine Promise.weak (.cons (weak_agg (.cons (Weak.refl _) <| .cons (weak_lit hc0) <| .cons (Weak.refl _) <| .nil)) <| .nil) ?_
  have E := @reF _ (fun r : (Bool) => .bool r) r
  refine promise_body tb_ok rfl lv89 dr89 Try.func89 ok89 rfl ?_
  unfold impl_IsSteady.f at H
  replace H := oC H
  obtain ⟨_, C0, H⟩ := H
  refine aA ?_
  refine leE ?_
  refine aA ?_
  refine Exists.intro _ (And.intro (impl_IsSequence.pr C0) ?_)
  refine brI H ?_ ?_ <;> clear H <;> intro _ H
  ·replace H := oA H
   obtain ⟨_, H⟩ := H
   replace H := oA H
   obtain ⟨_, H⟩ := H
   refine brT ?_
   refine exV ?_
   refine brT ?_
   refine aA ?_
   refine brT ?_
   refine exR (i := 0) ?_
   refine brT ?_
   refine aA ?_
   refine brT ?_
   refine exI (i := 0) ?_
   refine brT ?_
   refine brT ?_
   exact E H
  ·refine brF ?_
   refine brF ?_
   refine brF ?_
   refine brF ?_
   refine brF ?_
   refine brF ?_
   refine brF ?_
   exact E H
/-! impl_Sequence_own -/
noncomputable def lv90 : Nat → List Nat := atL [(0, [2, 3, 13, 14, 15])]
noncomputable def dr90 : Nat → Dr := atD [(1, ⟨[(4, 0, [148]), (5, 0, [148])], line [0, 1, 2, 3, 6, 4, 5, 7]⟩), (5, ⟨[(0, 1, []), (1, 1, [])], line [0, 1, 2, 3, 4, 5, 6, 7]⟩)]
theorem ok90 : bodyOk dr90 Try.f90 = true := by kernel_rfl
set_option maxHeartbeats 8000000 in
theorem impl_Sequence_own.pr {k : Nat} {a0_0 : Int} {l0_1 : List (List Int)} {l0_2 : List Int} {r : (Int × (List (List Int)) × List Int)} {n0 : Nat} {c0 : List AV} {n1 : Nat} (H : impl_Sequence_own.f k a0_0 l0_1 l0_2 = some r) (hn0 : n0 = l0_1.length := by exact ln) (hc0 : mapR view c0 = iis l0_1 := by exact vw) (hn1 : n1 = l0_2.length := by exact ln) : Promise Try.prog tb 90 [.agg [.int .i64 a0_0, .lit n0 c0, .lit n1 (ii l0_2)]] (.agg [.int .i64 r.1, .own 23 r.2.1.length (ois 3 r.2.1), .own 3 r.2.2.length (ii r.2.2)]) := by
  subst hn0
  subst hn1
  refine Promise.weak (.cons (weak_agg (.cons (Weak.refl _) <| .cons (weak_lit hc0) <| .cons (Weak.refl _) <| .nil)) <| .nil) ?_
  have E := @reF _ (fun r : (Int × (List (List Int)) × List Int) => .agg [.int .i64 r.1, .own 23 r.2.1.length (ois 3 r.2.1), .own 3 r.2.2.length (ii r.2.2)]) r
  refine promise_body tb_ok rfl lv90 dr90 Try.func90 ok90 rfl ?_
  unfold impl_Sequence_own.f at H
  replace H := oC H
  obtain ⟨_, C0, H⟩ := H
  refine aA ?_
  refine exV ?_
  refine exV ?_
  refine Exists.intro _ (And.intro (slices_Clone_int_int.pr C0) ?_)
  refine aA ?_
  refine exV ?_
  refine L6 (fun a13 a14 a15 a350000 a350001 a350002 => ⟨asl [(2, .ptr 0 0), (3, .ptr 1 0), (13, .lit a13.length (iis a13)), (14, .int IntKind.i64 a14), (15, .int IntKind.i64 a15)], hp [.box 32 [.int IntKind.i64 0, R 2 0, R 3 0], .box 32 [.int IntKind.i64 a350000, R 4 a350001.length, R 5 a350002.length], .row 23 0 false [], .row 3 0 false [], .row 23 0 false (ois 3 a350001), .row 3 0 false (ii a350002)]⟩) impl_Sequence_own.l0 H (cI [.old 132, .old 148] [.old 132, .old 148, .nilB 132 1, .nilB 132 2, .nilB 148 1, .old 260] [.old 132, .old 148, .nilB 132 1, .nilB 132 2, .nilB 148 1, .old 260]) ?_
  clear H
  intro k a13 a14 a15 a350000 a350001 a350002 L0 hk H hL0
  rw [impl_Sequence_own.l0] at H
  refine brI H ?_ ?_ <;> clear H <;> intro _ H
  ·replace H := oA H
   obtain ⟨_, H⟩ := H
   replace H := oA H
   obtain ⟨_, H⟩ := H
   replace H := oC H
   obtain ⟨_, C1, H⟩ := H
   replace H := oA H
   obtain ⟨_, H⟩ := H
   refine aA ?_
   refine exR ?_
   refine exV ?_
   refine Exists.intro _ (And.intro (slices_Clone_int_int.pr C1) ?_)
   refine aA ?_
   refine apO ?_
   refine aA ?_
   exact hL0 _ _ _ _ _ _ _ _ H (by omega) (cI [.old 0, .old 1] [.old 0, .old 1, .old 2, .old 3, .old 4, .old 5] [.old 0, .old 1, .old 2, .old 3, .old 4, .old 5])
  ·refine leE ?_
   refine aA ?_
   refine aA ?_
   refine leE ?_
   refine aA ?_
   exact E H
/-! impl_SteadyForm -/
noncomputable def lv70 : Nat → List Nat := atL [(0, [2, 4, 41, 42, 43]), (2, [2, 4, 7, 41, 42, 43, 48, 49, 50])]
noncomputable def dr70 : Nat → Dr := atD [(7, ⟨[(0, 1, []), (1, 1, []), (6, 0, [164]), (7, 1, []), (8, 1, []), (9, 0, [164]), (10, 0, [164])], line [0, 1, 2, 3, 4, 5, 7, 8, 11, 6, 9, 10, 12]⟩), (8, ⟨[(5, 1, []), (6, 1, []), (9, 1, [])], line [0, 1, 2, 3, 5, 6, 9, 4, 7, 8]⟩)]
theorem ok70 : bodyOk dr70 Try.f70 = true := by kernel_rfl
set_option maxHeartbeats 8000000 in
theorem impl_SteadyForm.pr {k : Nat} {a0_0 : Int} {l0_1 : List (List Int)} {l0_2 : List Int} {r : (Int × List (List Int) × List Int × Bool)} {n0 : Nat} {c0 : List AV} {n1 : Nat} (H : impl_SteadyForm.f k a0_0 l0_1 l0_2 = some r) (hn0 : n0 = l0_1.length := by exact ln) (hc0 : mapR view c0 = iis l0_1 := by exact vw) (hn1 : n1 = l0_2.length := by exact ln) : Promise Try.prog tb 70 [.agg [.int .i64 a0_0, .lit n0 c0, .lit n1 (ii l0_2)]] (.tup [.agg [.int .i64 r.1, .own 23 r.2.1.length (ois 3 r.2.1), .own 3 r.2.2.1.length (ii r.2.2.1)], .bool r.2.2.2]) := by
  subst hn0
  subst hn1
  refine Promise.weak (.cons (weak_agg (.cons (Weak.refl _) <| .cons (weak_lit hc0) <| .cons (Weak.refl _) <| .nil)) <| .nil) ?_
  have E := @reF _ (fun r : (Int × List (List Int) × List Int × Bool) => .tup [.agg [.int .i64 r.1, .own 23 r.2.1.length (ois 3 r.2.1), .own 3 r.2.2.1.length (ii r.2.2.1)], .bool r.2.2.2]) r
  refine promise_body tb_ok rfl lv70 dr70 Try.func70 ok70 rfl ?_
  unfold impl_SteadyForm.f at H
  replace H := oC H
  obtain ⟨_, C0, H⟩ := H
  refine aA ?_
  refine leE ?_
  refine aA ?_
  refine Exists.intro _ (And.intro (impl_IsSequence.pr C0) ?_)
  refine brN H ?_ ?_ <;> clear H <;> intro _ H
  ·refine aA ?_
   refine leE ?_
   refine aA ?_
   exact E H
  ·replace H := oC H
   obtain ⟨_, C1, H⟩ := H
   refine leE ?_
   refine aA ?_
   refine Exists.intro _ (And.intro (impl_IsSteady.pr C1) ?_)
   refine brI H ?_ ?_ <;> clear H <;> intro _ H
   ·replace H := oC H
    obtain ⟨_, C2, H⟩ := H
    refine leE ?_
    refine aA ?_
    refine Exists.intro _ (And.intro (impl_Sequence_own.pr C2) ?_)
    refine aA ?_
    refine leE ?_
    refine aA ?_
    exact E H
   ·refine exV ?_
    refine brI H ?_ ?_ <;> clear H <;> intro _ H
    ·refine aA ?_
     refine leE ?_
     refine aA ?_
     exact E H
    ·replace H := oA H
     obtain ⟨_, H⟩ := H
     replace H := oA H
     obtain ⟨_, H⟩ := H
     replace H := oA H
     obtain ⟨_, H⟩ := H
     replace H := oA H
     obtain ⟨_, H⟩ := H
     refine exV ?_
     refine exV ?_
     refine aA ?_
     refine exI (i := 0) ?_
     refine exV ?_
     refine aA ?_
     refine aA ?_
     refine leE ?_
     refine aA ?_
     refine exV ?_
     refine aA ?_
     refine exR (i := 0) ?_
     refine exV ?_
     refine exMv ?_
     refine aA ?_
     refine leE ?_
     refine L6 (fun a904000 a904002 a41 a42 a43 a904001 => ⟨asl [(2, .ptr 0 0), (4, .ptr 1 0), (41, R 2 a41.length), (42, .int IntKind.i64 a42), (43, .int IntKind.i64 a43)], hp [.box 32 [.int IntKind.i64 0, R 3 0, R 4 0], .box 32 [.int IntKind.i64 a904000, R 5 a904001.length, R 6 a904002.length], .row 23 0 true (iis a41), .row 23 0 false [], .row 3 0 false [], .row 23 0 false (ois 3 a904001), .row 3 0 false (ii a904002)]⟩) impl_SteadyForm.l0 H (cI [.old 132, .old 164, .old 708] [.old 132, .old 164, .old 708, .nilB 132 1, .nilB 132 2, .nilB 164 1, .old 564] [.old 132, .old 164, .old 708, .nilB 132 1, .nilB 132 2, .nilB 164 1, .old 564]) ?_
     clear H
     intro k a904000 a904002 a41 a42 a43 a904001 L0 hk H hL0
     rw [impl_SteadyForm.l0] at H
     refine brI H ?_ ?_ <;> clear H <;> intro _ H
     ·replace H := oA H
      obtain ⟨_, H⟩ := H
      replace H := oA H
      obtain ⟨_, H⟩ := H
      refine aA ?_
      refine exR ?_
      refine L10 (fun b904000 b904002 b41 b42 b43 b904001 b48 b49 b7 b50 => ⟨asl [(2, .ptr 0 0), (4, .ptr 1 0), (7, R 2 b7.length), (41, R 3 b41.length), (42, .int IntKind.i64 b42), (43, .int IntKind.i64 b43), (48, .lit b48.length (ii b48)), (49, .int IntKind.i64 b49), (50, .int IntKind.i64 b50)], hp [.box 32 [.int IntKind.i64 0, R 4 0, R 5 0], .box 32 [.int IntKind.i64 b904000, R 6 b904001.length, R 7 b904002.length], .row 3 0 false (ii b7), .row 23 0 true (iis b41), .row 23 0 false [], .row 3 0 false [], .row 23 0 false (ois 3 b904001), .row 3 0 false (ii b904002)]⟩) impl_SteadyForm.l1 H (cI [.old 0, .old 1, .old 852, .old 2] [.old 0, .old 1, .old 852, .old 2, .old 3, .old 4, .old 5, .old 6] [.old 0, .old 1, .old 852, .old 2, .old 3, .old 4, .old 5, .old 6]) ?_
      clear H
      intro k b904000 b904002 b41 b42 b43 b904001 b48 b49 b7 b50 L1 hk H hL1
      rw [impl_SteadyForm.l1] at H
      refine brI H ?_ ?_ <;> clear H <;> intro _ H
      ·replace H := oA H
       obtain ⟨_, H⟩ := H
       replace H := oA H
       obtain ⟨_, H⟩ := H
       replace H := oA H
       obtain ⟨_, H⟩ := H
       refine aA ?_
       refine exI ?_
       refine aA ?_
       refine aA ?_
       refine apI ?_
       exact hL1 _ _ _ _ _ _ _ _ _ _ _ _ H (by omega) (cI [.old 0, .old 1, .old 2, .old 3] [.old 0, .old 1, .old 2, .old 3, .old 4, .old 5, .old 6, .old 7] [.old 0, .old 1, .old 2, .old 3, .old 4, .old 5, .old 6, .old 7])
      ·replace H := oA H
       obtain ⟨_, H⟩ := H
       refine exV ?_
       refine aA ?_
       refine apO ?_
       refine aA ?_
       exact hL0 _ _ _ _ _ _ _ _ H (by omega) (cI [.old 0, .old 1, .old 3] [.old 0, .old 1, .old 3, .old 4, .old 5, .old 6, .old 7] [.old 0, .old 1, .old 3, .old 4, .old 5, .old 6, .old 7])
     ·replace H := oA H
      obtain ⟨_, H⟩ := H
      replace H := oA H
      obtain ⟨_, H⟩ := H
      refine exV ?_
      refine aA ?_
      refine exNest (i := 0) (j := 0) ?_
      refine leE ?_
      refine aA ?_
      refine aA ?_
      refine leE ?_
      refine aA ?_
      exact E H
/-! impl_MinimalForm -/
noncomputable def lv36 : Nat → List Nat := atL []
noncomputable def dr36 : Nat → Dr := atD []
theorem ok36 : bodyOk dr36 Try.f36 = true := by kernel_rfl
set_option maxHeartbeats 8000000 in
theorem impl_MinimalForm.pr {k : Nat} {a0_0 : Int} {l0_1 : List (List Int)} {l0_2 : List Int} {r : (Int × List (List Int) × List Int × Bool)} {n0 : Nat} {c0 : List AV} {n1 : Nat} (H : impl_MinimalForm.f k a0_0 l0_1 l0_2 = some r) (hn0 : n0 = l0_1.length := by exact ln) (hc0 : mapR view c0 = iis l0_1 := by exact vw) (hn1 : n1 = l0_2.length := by exact ln) : Promise Try.prog tb 36 [.agg [.int .i64 a0_0, .lit n0 c0, .lit n1 (ii l0_2)]] (.tup [.agg [.int .i64 r.1, .own 23 r.2.1.length (ois 3 r.2.1), .own 3 r.2.2.1.length (ii r.2.2.1)], .bool r.2.2.2]) := by
  subst hn0
  subst hn1
  refine Promise.weak (.cons (weak_agg (.cons (Weak.refl _) <| .cons (weak_lit hc0) <| .cons (Weak.refl _) <| .nil)) <| .nil) ?_
  have E := @reF _ (fun r : (Int × List (List Int) × List Int × Bool) => .tup [.agg [.int .i64 r.1, .own 23 r.2.1.length (ois 3 r.2.1), .own 3 r.2.2.1.length (ii r.2.2.1)], .bool r.2.2.2]) r
  refine promise_body tb_ok rfl lv36 dr36 Try.func36 ok36 rfl ?_
  unfold impl_MinimalForm.f at H
  replace H := oC H
  obtain ⟨_, C0, H⟩ := H
  refine aA ?_
  refine leE ?_
  refine aA ?_
  refine Exists.intro _ (And.intro (impl_SteadyForm.pr C0) ?_)
  refine exV ?_
  refine exV ?_
  refine aA ?_
  refine brN H ?_ ?_ <;> clear H <;> intro _ H
  ·refine aA ?_
   refine leE ?_
   refine aA ?_
   exact E H
  ·replace H := oC H
   obtain ⟨_, C1, H⟩ := H
   refine exV ?_
   refine exV ?_
   refine Exists.intro _ (And.intro (impl_minimal.pr C1) ?_)
   refine exV ?_
   refine exV ?_
   refine exV ?_
   refine aA ?_
   refine leE ?_
   refine aA ?_
   exact E H
end Go.Ev
