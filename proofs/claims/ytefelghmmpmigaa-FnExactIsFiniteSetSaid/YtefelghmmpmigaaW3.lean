/- Walks of functions with the plain evaluator: what each computes -/
import Derived.Test.YtefelghmmpmigaaEh1
import Derived.Test.YtefelghmmpmigaaEp
import Derived.Test.YtefelghmmpmigaaF8
import Derived.Test.YtefelghmmpmigaaW0
import Derived.Test.YtefelghmmpmigaaW2
namespace Go.Ev
open Go.Proofs Go Go.Proofs.YtefelghmmpmigaaW.PrintWords Go.Proofs.Ytefelghmmpmigaa.Q
set_option maxRecDepth 100000
set_option linter.unusedVariables false
attribute [local irreducible] br Loop
/-! impl_Relation_useful -/
noncomputable def lv66 : Nat → List Nat := atL [(0, [1, 3, 13, 14]), (2, [1, 3, 13, 14, 17, 18, 19]), (4, [1, 3, 4, 13, 14, 17, 18, 19, 24, 25, 26])]
noncomputable def dr66 : Nat → Dr := atD []
theorem ok66 : bodyOk dr66 Try.f66 = true := by kernel_rfl
set_option maxHeartbeats 8000000 in
theorem impl_Relation_useful.pr {k : Nat} {a0_0 : Int} {a0_1 : Int} {l0_2 : List (List Int)} {l0_3 : List Bool} {r : (List Bool)} {n0 : Nat} {c0 : List AV} {n1 : Nat} (H : impl_Relation_useful.f k a0_0 a0_1 l0_2 l0_3 = some r) (hn0 : n0 = l0_2.length := by exact ln) (hc0 : mapR view c0 = iis l0_2 := by exact vw) (hn1 : n1 = l0_3.length := by exact ln) : Promise Try.prog tb 66 [.agg [.int .i64 a0_0, .int .i64 a0_1, .lit n0 c0, .lit n1 (bb l0_3)]] (.own 4 r.length (bb r)) := by
  subst hn0
  subst hn1
  refine Promise.weak (.cons (weak_agg (.cons (Weak.refl _) <| .cons (Weak.refl _) <| .cons (weak_lit hc0) <| .cons (Weak.refl _) <| .nil)) <| .nil) ?_
  have E := @reF _ (fun r : (List Bool) => .own 4 r.length (bb r)) r
  refine promise_body tb_ok rfl lv66 dr66 Try.func66 ok66 rfl ?_
  unfold impl_Relation_useful.f at H
  replace H := oC H
  obtain ⟨_, C0, H⟩ := H
  refine aA ?_
  refine exV ?_
  refine Exists.intro _ (And.intro (slices_Clone_bool_bool.pr C0) ?_)
  refine exV ?_
  refine L7 (fun a3 a13 a14 a1031000 a1031001 a1031002 a1031003 => ⟨asl [(1, .ptr 0 0), (3, R 1 a3.length), (13, .int IntKind.i64 a13), (14, .int IntKind.i64 a14)], hp [.box 29 [.int IntKind.i64 a1031000, .int IntKind.i64 a1031001, .lit a1031002.length (iis a1031002), .lit a1031003.length (bb a1031003)], .row 4 0 false (bb a3)]⟩) impl_Relation_useful.l0 H (cI [.old 116, .old 260] [.old 116, .old 260] [.old 116, .old 260]) ?_
  clear H
  intro k a3 a13 a14 a1031000 a1031001 a1031002 a1031003 L0 hk H hL0
  rw [impl_Relation_useful.l0] at H
  refine brI H ?_ ?_ <;> clear H <;> intro _ H
  ·refine exV ?_
   refine L10 (fun b3 b13 b14 b17 b18 b19 b1031000 b1031001 b1031002 b1031003 => ⟨asl [(1, .ptr 0 0), (3, R 1 b3.length), (13, .int IntKind.i64 b13), (14, .int IntKind.i64 b14), (17, .lit b17.length (iis b17)), (18, .int IntKind.i64 b18), (19, .int IntKind.i64 b19)], hp [.box 29 [.int IntKind.i64 b1031000, .int IntKind.i64 b1031001, .lit b1031002.length (iis b1031002), .lit b1031003.length (bb b1031003)], .row 4 0 false (bb b3)]⟩) impl_Relation_useful.l1 H (cI [.old 0, .old 1] [.old 0, .old 1] [.old 0, .old 1]) ?_
   clear H
   intro k b3 b13 b14 b17 b18 b19 b1031000 b1031001 b1031002 b1031003 L1 hk H hL1
   rw [impl_Relation_useful.l1] at H
   refine brI H ?_ ?_ <;> clear H <;> intro _ H
   ·replace H := oA H
    obtain ⟨_, H⟩ := H
    replace H := oA H
    obtain ⟨_, H⟩ := H
    refine aA ?_
    refine exR ?_
    refine L14 (fun c3 c4 c13 c14 c17 c18 c19 c24 c25 c26 c1031000 c1031001 c1031002 c1031003 => ⟨asl [(1, .ptr 0 0), (3, R 1 c3.length), (4, .int IntKind.i64 c4), (13, .int IntKind.i64 c13), (14, .int IntKind.i64 c14), (17, .lit c17.length (iis c17)), (18, .int IntKind.i64 c18), (19, .int IntKind.i64 c19), (24, .lit c24.length (ii c24)), (25, .int IntKind.i64 c25), (26, .int IntKind.i64 c26)], hp [.box 29 [.int IntKind.i64 c1031000, .int IntKind.i64 c1031001, .lit c1031002.length (iis c1031002), .lit c1031003.length (bb c1031003)], .row 4 0 false (bb c3)]⟩) impl_Relation_useful.l2 H (cI [.old 0, .old 1] [.old 0, .old 1] [.old 0, .old 1]) ?_
    clear H
    intro k c3 c4 c13 c14 c17 c18 c19 c24 c25 c26 c1031000 c1031001 c1031002 c1031003 L2 hk H hL2
    rw [impl_Relation_useful.l2] at H
    refine brI H ?_ ?_ <;> clear H <;> intro _ H
    ·replace H := oA H
     obtain ⟨_, H⟩ := H
     replace H := oA H
     obtain ⟨_, H⟩ := H
     replace H := oA H
     obtain ⟨_, H⟩ := H
     replace H := oA H
     obtain ⟨_, H⟩ := H
     refine aA ?_
     refine exI ?_
     refine aA ?_
     refine exB ?_
     refine brI H ?_ ?_ <;> clear H <;> intro _ H
     ·refine brT ?_
      refine brT ?_
      refine brT ?_
      refine brT ?_
      refine aA ?_
      refine aA ?_
      refine seB ?_
      exact hL2 _ _ _ _ _ _ _ _ _ _ _ _ _ _ _ _ H (by omega) (cI [.old 0, .old 1] [.old 0, .old 1] [.old 0, .old 1])
     ·replace H := oA H
      obtain ⟨_, H⟩ := H
      replace H := oA H
      obtain ⟨_, H⟩ := H
      refine brF ?_
      refine brF ?_
      refine aA ?_
      refine brF ?_
      refine exB ?_
      refine brF ?_
      refine aA ?_
      refine aA ?_
      refine seB ?_
      exact hL2 _ _ _ _ _ _ _ _ _ _ _ _ _ _ _ _ H (by omega) (cI [.old 0, .old 1] [.old 0, .old 1] [.old 0, .old 1])
    ·exact hL1 _ _ _ _ _ _ _ _ _ _ _ _ H (by omega) (cI [.old 0, .old 1] [.old 0, .old 1] [.old 0, .old 1])
   ·exact hL0 _ _ _ _ _ _ _ _ _ H (by omega) (cI [.old 0, .old 1] [.old 0, .old 1] [.old 0, .old 1])
  ·exact E H
/-! slices_Index_bool_bool -/
noncomputable def lv84 : Nat → List Nat := atL [(0, [0, 1, 7, 8])]
noncomputable def dr84 : Nat → Dr := atD []
theorem ok84 : bodyOk dr84 Try.f84 = true := by kernel_rfl
set_option maxHeartbeats 8000000 in
theorem slices_Index_bool_bool.pr {k : Nat} {l0 : List Bool} {a1 : Bool} {r : (Int)} {n0 : Nat} (H : slices_Index_bool_bool.f k l0 a1 = some r) (hn0 : n0 = l0.length := by exact ln) : Promise Try.prog tb 84 [.lit n0 (bb l0), .bool a1] (.int .i64 r) := by
  subst hn0
  have E := @reF _ (fun r : (Int) => .int .i64 r) r
  refine promise_body tb_ok rfl lv84 dr84 Try.func84 ok84 rfl ?_
  unfold slices_Index_bool_bool.f at H
  refine L4 (fun a0 a1 a7 a8 => ⟨asl [(0, .lit a0.length (bb a0)), (1, .bool a1), (7, .int IntKind.i64 a7), (8, .int IntKind.i64 a8)], hp []⟩) slices_Index_bool_bool.l0 H (cI [] [] []) ?_
  clear H
  intro k a0 a1 a7 a8 L0 hk H hL0
  rw [slices_Index_bool_bool.l0] at H
  refine brI H ?_ ?_ <;> clear H <;> intro _ H
  ·replace H := oA H
   obtain ⟨_, H⟩ := H
   replace H := oA H
   obtain ⟨_, H⟩ := H
   refine aA ?_
   refine exB ?_
   refine brI H ?_ ?_ <;> clear H <;> intro _ H
   ·exact E H
   ·exact hL0 _ _ _ _ _ _ H (by omega) (cI [] [] [])
  ·exact E H
/-! slices_Contains_bool_bool -/
noncomputable def lv67 : Nat → List Nat := atL []
noncomputable def dr67 : Nat → Dr := atD []
theorem ok67 : bodyOk dr67 Try.f67 = true := by kernel_rfl
set_option maxHeartbeats 8000000 in
theorem slices_Contains_bool_bool.pr {k : Nat} {l0 : List Bool} {a1 : Bool} {r : (Bool)} {n0 : Nat} (H : slices_Contains_bool_bool.f k l0 a1 = some r) (hn0 : n0 = l0.length := by exact ln) : Promise Try.prog tb 67 [.lit n0 (bb l0), .bool a1] (.bool r) := by
  subst hn0
  have E := @reF _ (fun r : (Bool) => .bool r) r
  refine promise_body tb_ok rfl lv67 dr67 Try.func67 ok67 rfl ?_
  unfold slices_Contains_bool_bool.f at H
  replace H := oC H
  obtain ⟨_, C0, H⟩ := H
  refine Exists.intro _ (And.intro (slices_Index_bool_bool.pr C0) ?_)
  exact E H
/-! impl_IsFiniteSet -/
noncomputable def lv29 : Nat → List Nat := atL [(0, [1, 3, 4, 25, 26, 27]), (2, [1, 3, 4, 46, 47]), (4, [1, 3, 7, 8, 46, 47, 53, 54, 55]), (6, [1, 3, 7, 8, 46, 47, 53, 54, 55, 66, 67, 68])]
noncomputable def dr29 : Nat → Dr := atD []
theorem ok29 : bodyOk dr29 Try.f29 = true := by kernel_rfl
set_option maxHeartbeats 8000000 in
theorem impl_IsFiniteSet.pr {k : Nat} {a0_0 : Int} {a0_1 : Int} {l0_2 : List (List Int)} {l0_3 : List Bool} {r : (Bool)} {n0 : Nat} {c0 : List AV} {n1 : Nat} (H : impl_IsFiniteSet.f k a0_0 a0_1 l0_2 l0_3 = some r) (hn0 : n0 = l0_2.length := by exact ln) (hc0 : mapR view c0 = iis l0_2 := by exact vw) (hn1 : n1 = l0_3.length := by exact ln) : Promise Try.prog tb 29 [.agg [.int .i64 a0_0, .int .i64 a0_1, .lit n0 c0, .lit n1 (bb l0_3)]] (.bool r) := by
  subst hn0
  subst hn1
  refine Promise.weak (.cons (weak_agg (.cons (Weak.refl _) <| .cons (Weak.refl _) <| .cons (weak_lit hc0) <| .cons (Weak.refl _) <| .nil)) <| .nil) ?_
  have E := @reF _ (fun r : (Bool) => .bool r) r
  refine promise_body tb_ok rfl lv29 dr29 Try.func29 ok29 rfl ?_
  unfold impl_IsFiniteSet.f at H
  replace H := oC H
  obtain ⟨_, C0, H⟩ := H
  refine aA ?_
  refine leE ?_
  refine aA ?_
  refine Exists.intro _ (And.intro (impl_IsRelation.pr C0) ?_)
  refine brN H ?_ ?_ <;> clear H <;> intro _ H
  ·exact E H
  ·replace H := oC H
   obtain ⟨_, C1, H⟩ := H
   replace H := oA H
   obtain ⟨_, H⟩ := H
   replace H := oA H
   obtain ⟨_, H⟩ := H
   replace H := oA H
   obtain ⟨_, H⟩ := H
   refine leE ?_
   refine aA ?_
   refine Exists.intro _ (And.intro (impl_Relation_useful.pr C1) ?_)
   refine exV ?_
   refine aA ?_
   refine aA ?_
   refine mkB ?_
   refine exV ?_
   refine aA ?_
   refine exR (i := 0) ?_
   refine L9 (fun a3 a4 a25 a26 a27 a1043000 a1043001 a1043002 a1043003 => ⟨asl [(1, .ptr 0 0), (3, R 1 a3.length), (4, R 2 a4.length), (25, .lit a25.length (ii a25)), (26, .int IntKind.i64 a26), (27, .int IntKind.i64 a27)], hp [.box 29 [.int IntKind.i64 a1043000, .int IntKind.i64 a1043001, .lit a1043002.length (iis a1043002), .lit a1043003.length (bb a1043003)], .row 4 0 false (bb a3), .row 4 0 false (bb a4)]⟩) impl_IsFiniteSet.l0 H (cI [.old 116, .old 372, .old 436] [.old 116, .old 372, .old 436] [.old 116, .old 372, .old 436]) ?_
   clear H
   intro k a3 a4 a25 a26 a27 a1043000 a1043001 a1043002 a1043003 L0 hk H hL0
   rw [impl_IsFiniteSet.l0] at H
   refine brI H ?_ ?_ <;> clear H <;> intro _ H
   ·replace H := oA H
    obtain ⟨_, H⟩ := H
    replace H := oA H
    obtain ⟨_, H⟩ := H
    refine aA ?_
    refine exI ?_
    refine brI H ?_ ?_ <;> clear H <;> intro _ H
    ·replace H := oA H
     obtain ⟨_, H⟩ := H
     replace H := oA H
     obtain ⟨_, H⟩ := H
     refine brT ?_
     refine brT ?_
     refine aA ?_
     refine brT ?_
     refine exB ?_
     refine brT ?_
     refine brI H ?_ ?_ <;> clear H <;> intro _ H
     ·replace H := oA H
      obtain ⟨_, H⟩ := H
      refine aA ?_
      refine aA ?_
      refine seB ?_
      exact hL0 _ _ _ _ _ _ _ _ _ _ _ H (by omega) (cI [.old 0, .old 1, .old 2] [.old 0, .old 1, .old 2] [.old 0, .old 1, .old 2])
     ·exact hL0 _ _ _ _ _ _ _ _ _ _ _ H (by omega) (cI [.old 0, .old 1, .old 2] [.old 0, .old 1, .old 2] [.old 0, .old 1, .old 2])
    ·refine brF ?_
     refine brF ?_
     refine brF ?_
     refine brF ?_
     refine brF ?_
     exact hL0 _ _ _ _ _ _ _ _ _ _ _ H (by omega) (cI [.old 0, .old 1, .old 2] [.old 0, .old 1, .old 2] [.old 0, .old 1, .old 2])
   ·refine exV ?_
    refine L8 (fun b3 b4 b46 b47 b1043000 b1043001 b1043002 b1043003 => ⟨asl [(1, .ptr 0 0), (3, R 1 b3.length), (4, R 2 b4.length), (46, .int IntKind.i64 b46), (47, .int IntKind.i64 b47)], hp [.box 29 [.int IntKind.i64 b1043000, .int IntKind.i64 b1043001, .lit b1043002.length (iis b1043002), .lit b1043003.length (bb b1043003)], .row 4 0 false (bb b3), .row 4 0 false (bb b4)]⟩) impl_IsFiniteSet.l1 H (cI [.old 0, .old 1, .old 2] [.old 0, .old 1, .old 2] [.old 0, .old 1, .old 2]) ?_
    clear H
    intro k b3 b4 b46 b47 b1043000 b1043001 b1043002 b1043003 L1 hk H hL1
    rw [impl_IsFiniteSet.l1] at H
    refine brI H ?_ ?_ <;> clear H <;> intro _ H
    ·replace H := oA H
     obtain ⟨_, H⟩ := H
     replace H := oA H
     obtain ⟨_, H⟩ := H
     refine exV ?_
     refine aA ?_
     refine aA ?_
     refine mkB ?_
     refine L12 (fun c3 c7 c8 c46 c47 c53 c54 c55 c1043000 c1043001 c1043002 c1043003 => ⟨asl [(1, .ptr 0 0), (3, R 1 c3.length), (7, R 2 c7.length), (8, .bool c8), (46, .int IntKind.i64 c46), (47, .int IntKind.i64 c47), (53, R 3 c53.length), (54, .int IntKind.i64 c54), (55, .int IntKind.i64 c55)], hp [.box 29 [.int IntKind.i64 c1043000, .int IntKind.i64 c1043001, .lit c1043002.length (iis c1043002), .lit c1043003.length (bb c1043003)], .row 4 0 false (bb c3), .row 4 0 false (bb c7), .row 4 0 false (bb c53)]⟩) impl_IsFiniteSet.l2 H (cI [.old 0, .old 1, .old 932, .old 2] [.old 0, .old 1, .old 932, .old 2] [.old 0, .old 1, .old 932, .old 2]) ?_
     clear H
     intro k c3 c7 c8 c46 c47 c53 c54 c55 c1043000 c1043001 c1043002 c1043003 L2 hk H hL2
     rw [impl_IsFiniteSet.l2] at H
     refine brI H ?_ ?_ <;> clear H <;> intro _ H
     ·replace H := oA H
      obtain ⟨_, H⟩ := H
      replace H := oA H
      obtain ⟨_, H⟩ := H
      refine aA ?_
      refine exB ?_
      refine brN H ?_ ?_ <;> clear H <;> intro _ H
      ·exact hL2 _ _ _ _ _ _ _ _ _ _ _ _ _ _ H (by omega) (cI [.old 0, .old 1, .old 2, .old 3] [.old 0, .old 1, .old 2, .old 3] [.old 0, .old 1, .old 2, .old 3])
      ·replace H := oA H
       obtain ⟨_, H⟩ := H
       refine exV ?_
       refine aA ?_
       refine exR ?_
       refine L15 (fun d3 d7 d8 d46 d47 d53 d54 d55 d66 d67 d68 d1043000 d1043001 d1043002 d1043003 => ⟨asl [(1, .ptr 0 0), (3, R 1 d3.length), (7, R 2 d7.length), (8, .bool d8), (46, .int IntKind.i64 d46), (47, .int IntKind.i64 d47), (53, R 3 d53.length), (54, .int IntKind.i64 d54), (55, .int IntKind.i64 d55), (66, .lit d66.length (ii d66)), (67, .int IntKind.i64 d67), (68, .int IntKind.i64 d68)], hp [.box 29 [.int IntKind.i64 d1043000, .int IntKind.i64 d1043001, .lit d1043002.length (iis d1043002), .lit d1043003.length (bb d1043003)], .row 4 0 false (bb d3), .row 4 0 false (bb d7), .row 4 0 false (bb d53)]⟩) impl_IsFiniteSet.l3 H (cI [.old 0, .old 1, .old 2, .old 3] [.old 0, .old 1, .old 2, .old 3] [.old 0, .old 1, .old 2, .old 3]) ?_
       clear H
       intro k d3 d7 d8 d46 d47 d53 d54 d55 d66 d67 d68 d1043000 d1043001 d1043002 d1043003 L3 hk H hL3
       rw [impl_IsFiniteSet.l3] at H
       refine brI H ?_ ?_ <;> clear H <;> intro _ H
       ·replace H := oA H
        obtain ⟨_, H⟩ := H
        replace H := oA H
        obtain ⟨_, H⟩ := H
        replace H := oA H
        obtain ⟨_, H⟩ := H
        replace H := oA H
        obtain ⟨_, H⟩ := H
        refine aA ?_
        refine exI ?_
        refine aA ?_
        refine exB ?_
        refine brI H ?_ ?_ <;> clear H <;> intro _ H
        ·replace H := oA H
         obtain ⟨_, H⟩ := H
         refine aA ?_
         refine aA ?_
         refine seB ?_
         exact hL3 _ _ _ _ _ _ _ _ _ _ _ _ _ _ _ _ _ H (by omega) (cI [.old 0, .old 1, .old 2, .old 3] [.old 0, .old 1, .old 2, .old 3] [.old 0, .old 1, .old 2, .old 3])
        ·exact hL3 _ _ _ _ _ _ _ _ _ _ _ _ _ _ _ _ _ H (by omega) (cI [.old 0, .old 1, .old 2, .old 3] [.old 0, .old 1, .old 2, .old 3] [.old 0, .old 1, .old 2, .old 3])
       ·exact hL2 _ _ _ _ _ _ _ _ _ _ _ _ _ _ H (by omega) (cI [.old 0, .old 1, .old 2, .old 3] [.old 0, .old 1, .old 2, .old 3] [.old 0, .old 1, .old 2, .old 3])
     ·refine brN H ?_ ?_ <;> clear H <;> intro _ H
      ·exact E H
      ·exact hL1 _ _ _ _ _ _ _ _ _ _ H (by omega) (cI [.old 0, .old 1, .old 2] [.old 0, .old 1, .old 2] [.old 0, .old 1, .old 2])
    ·replace H := oC H
     obtain ⟨_, C2, H⟩ := H
     refine Exists.intro _ (And.intro (slices_Contains_bool_bool.pr C2) ?_)
     exact E H
/-! laws_FnExactIsFiniteSet -/
noncomputable def lv8 : Nat → List Nat := atL []
noncomputable def dr8 : Nat → Dr := atD [(10, ⟨[], line [0, 1, 2, 3, 4]⟩)]
theorem ok8 : bodyOk dr8 Try.f8 = true := by kernel_rfl
set_option maxHeartbeats 8000000 in
theorem laws_FnExactIsFiniteSet.pr {k : Nat} {a0_0 : Int} {a0_1 : Int} {l0_2 : List (List Int)} {l0_3 : List Bool} {r : Bool} (H : laws_FnExactIsFiniteSet.f k a0_0 a0_1 l0_2 l0_3 = some r) : Contract Try.prog tb 8 [.agg [.int .i64 a0_0, .int .i64 a0_1, .lit l0_2.length (iis l0_2), .lit l0_3.length (bb l0_3)]] (.bool r) := by
  have E := @reF _ (fun r : Bool => .bool r) r
  refine law_body tb_ok rfl lv8 dr8 Try.func8 ok8 (xs := [.agg [.int .i64 a0_0, .int .i64 a0_1, .xr 16, .xr 17]]) (ex := [(l0_2.length, (iis l0_2)), (l0_3.length, (bb l0_3))]) rfl ?_
  unfold laws_FnExactIsFiniteSet.f at H
  replace H := oC H
  obtain ⟨_, C0, H⟩ := H
  refine aA ?_
  refine leE ?_
  refine aA ?_
  refine Exists.intro _ (And.intro (laws_szRelation.pr C0) ?_)
  refine brI H ?_ ?_ <;> clear H <;> intro _ H
  ·exact E H
  ·replace H := oC H
   obtain ⟨_, C1, H⟩ := H
   replace H := oC H
   obtain ⟨_, C2, H⟩ := H
   replace H := oC H
   obtain ⟨_, C3, H⟩ := H
   replace H := oA H
   obtain ⟨_, H⟩ := H
   replace H := oC H
   obtain ⟨_, C4, H⟩ := H
   replace H := oA H
   obtain ⟨_, H⟩ := H
   refine leE ?_
   refine aA ?_
   refine Exists.intro _ (And.intro (laws_toRelation.pr C1) ?_)
   refine Exists.intro _ (And.intro (spec_IsFiniteSet.pr C2) ?_)
   refine leE ?_
   refine aA ?_
   refine Exists.intro _ (And.intro (laws_toRelation.pr C1) ?_)
   refine aA ?_
   refine leE ?_
   refine aA ?_
   refine Exists.intro _ (And.intro (impl_IsFiniteSet.pr C3) ?_)
   refine brF ?_
   refine leE ?_
   refine aA ?_
   refine leE ?_
   refine aA ?_
   refine Exists.intro _ (And.intro (laws_toRelation.pr C1) ?_)
   refine Exists.intro _ (And.intro (laws_eqRelation.pr C4) ?_)
   refine brF ?_
   exact E H
end Go.Ev
