/- Walks of functions with the plain evaluator: what each computes -/
import Derived.Test.YtefelghmmpmigaaEh1
import Derived.Test.YtefelghmmpmigaaEp
import Derived.Test.YtefelghmmpmigaaF8
import Derived.Test.YtefelghmmpmigaaW0
import Derived.Test.YtefelghmmpmigaaW1
namespace Go.Ev
open Go.Proofs Go Go.Proofs.YtefelghmmpmigaaW.PrintWords Go.Proofs.Ytefelghmmpmigaa.Q
set_option maxRecDepth 100000
set_option linter.unusedVariables false
attribute [local irreducible] br Loop
/-! impl_IsRelation -/
noncomputable def lv58 : Nat → List Nat := atL [(0, [1, 3, 41, 42, 43]), (2, [1, 3, 41, 42, 43, 55, 56, 57])]
noncomputable def dr58 : Nat → Dr := atD []
theorem ok58 : bodyOk dr58 Try.f58 = true := by kernel_rfl
set_option maxHeartbeats 8000000 in
theorem impl_IsRelation.pr {k : Nat} {a0_0 : Int} {a0_1 : Int} {l0_2 : List (List Int)} {l0_3 : List Bool} {r : (Bool)} {n0 : Nat} {c0 : List AV} {n1 : Nat} (H : impl_IsRelation.f k a0_0 a0_1 l0_2 l0_3 = some r) (hn0 : n0 = l0_2.length := by exact ln) (hc0 : mapR view c0 = iis l0_2 := by exact vw) (hn1 : n1 = l0_3.length := by exact ln) : Promise Try.prog tb 58 [.agg [.int .i64 a0_0, .int .i64 a0_1, .lit n0 c0, .lit n1 (bb l0_3)]] (.bool r) := by
  subst hn0
  subst hn1
  refine Promise.weak (.cons (weak_agg (.cons (Weak.refl _) <| .cons (Weak.refl _) <| .cons (weak_lit hc0) <| .cons (Weak.refl _) <| .nil)) <| .nil) ?_
  have E := @reF _ (fun r : (Bool) => .bool r) r
  refine promise_body tb_ok rfl lv58 dr58 Try.func58 ok58 rfl ?_
  unfold impl_IsRelation.f at H
  replace H := oC H
  obtain ⟨_, C0, H⟩ := H
  refine aA ?_
  refine exV ?_
  refine exV ?_
  refine Exists.intro _ (And.intro (impl_isSmallBase.pr C0) ?_)
  refine brN H ?_ ?_ <;> clear H <;> intro _ H
  ·rcases k with _ | k
   · cases H
   rw [impl_IsRelation.j0] at H
   replace H := oT H
   refine brT ?_
   refine brT ?_
   refine brT ?_
   refine brT ?_
   refine brT ?_
   refine brT ?_
   refine brT ?_
   refine brT ?_
   refine brT ?_
   refine brT ?_
   refine brT ?_
   refine brT ?_
   refine brT ?_
   refine brT ?_
   refine brT ?_
   refine brT ?_
   refine brT ?_
   refine brT ?_
   refine brT ?_
   refine brT ?_
   exact E H
  ·refine brF ?_
   refine exV ?_
   refine brF ?_
   refine brF ?_
   refine brI H ?_ ?_ <;> clear H <;> intro _ H
   ·rcases k with _ | k
    · cases H
    rw [impl_IsRelation.j0] at H
    replace H := oT H
    refine brT ?_
    refine brT ?_
    refine brT ?_
    refine brT ?_
    refine brT ?_
    refine brT ?_
    refine brT ?_
    refine brT ?_
    refine brT ?_
    refine brT ?_
    refine brT ?_
    refine brT ?_
    refine brT ?_
    refine brT ?_
    refine brT ?_
    refine brT ?_
    exact E H
   ·refine brF ?_
    refine exV ?_
    refine brF ?_
    refine brF ?_
    refine brI H ?_ ?_ <;> clear H <;> intro _ H
    ·rcases k with _ | k
     · cases H
     rw [impl_IsRelation.j0] at H
     replace H := oT H
     refine brT ?_
     refine brT ?_
     refine brT ?_
     refine brT ?_
     refine brT ?_
     refine brT ?_
     refine brT ?_
     refine brT ?_
     refine brT ?_
     refine brT ?_
     refine brT ?_
     refine brT ?_
     exact E H
    ·refine brF ?_
     refine brF ?_
     refine brI H ?_ ?_ <;> clear H <;> intro _ H
     ·rcases k with _ | k
      · cases H
      rw [impl_IsRelation.j0] at H
      replace H := oT H
      refine brT ?_
      refine brT ?_
      refine brT ?_
      refine brT ?_
      refine brT ?_
      refine brT ?_
      refine brT ?_
      refine brT ?_
      refine brT ?_
      exact E H
     ·refine brF ?_
      refine brF ?_
      refine brI H ?_ ?_ <;> clear H <;> intro _ H
      ·rcases k with _ | k
       · cases H
       rw [impl_IsRelation.j0] at H
       replace H := oT H
       refine brT ?_
       refine brT ?_
       refine brT ?_
       refine brT ?_
       refine brT ?_
       refine brT ?_
       exact E H
      ·rcases k with _ | k
       · cases H
       rw [impl_IsRelation.j0] at H
       refine brF ?_
       refine exV ?_
       refine brF ?_
       refine brF ?_
       refine brF ?_
       refine brF ?_
       refine brI H ?_ ?_ <;> clear H <;> intro _ H
       ·exact E H
       ·refine exV ?_
        refine L8 (fun a3 a41 a42 a43 a651000 a651001 a651002 a651003 => ⟨asl [(1, .ptr 0 0), (3, .int IntKind.i64 a3), (41, .lit a41.length (iis a41)), (42, .int IntKind.i64 a42), (43, .int IntKind.i64 a43)], hp [.box 29 [.int IntKind.i64 a651000, .int IntKind.i64 a651001, .lit a651002.length (iis a651002), .lit a651003.length (bb a651003)]]⟩) impl_IsRelation.l0 H (cI [.old 116] [.old 116] [.old 116]) ?_
        clear H
        intro k a3 a41 a42 a43 a651000 a651001 a651002 a651003 L0 hk H hL0
        rw [impl_IsRelation.l0] at H
        refine brI H ?_ ?_ <;> clear H <;> intro _ H
        ·replace H := oA H
         obtain ⟨_, H⟩ := H
         replace H := oA H
         obtain ⟨_, H⟩ := H
         replace H := oC H
         obtain ⟨_, C1, H⟩ := H
         refine aA ?_
         refine exR ?_
         refine exV ?_
         refine exV ?_
         refine Exists.intro _ (And.intro (impl_power.pr C1) ?_)
         refine brN H ?_ ?_ <;> clear H <;> intro _ H
         ·exact E H
         ·refine L11 (fun b3 b41 b42 b43 b55 b56 b57 b651000 b651001 b651002 b651003 => ⟨asl [(1, .ptr 0 0), (3, .int IntKind.i64 b3), (41, .lit b41.length (iis b41)), (42, .int IntKind.i64 b42), (43, .int IntKind.i64 b43), (55, .lit b55.length (ii b55)), (56, .int IntKind.i64 b56), (57, .int IntKind.i64 b57)], hp [.box 29 [.int IntKind.i64 b651000, .int IntKind.i64 b651001, .lit b651002.length (iis b651002), .lit b651003.length (bb b651003)]]⟩) impl_IsRelation.l1 H (cI [.old 0] [.old 0] [.old 0]) ?_
          clear H
          intro k b3 b41 b42 b43 b55 b56 b57 b651000 b651001 b651002 b651003 L1 hk H hL1
          rw [impl_IsRelation.l1] at H
          refine brI H ?_ ?_ <;> clear H <;> intro _ H
          ·replace H := oA H
           obtain ⟨_, H⟩ := H
           replace H := oA H
           obtain ⟨_, H⟩ := H
           refine aA ?_
           refine exI ?_
           refine brI H ?_ ?_ <;> clear H <;> intro _ H
           ·refine brT ?_
            refine brT ?_
            refine brT ?_
            refine brT ?_
            exact E H
           ·refine brF ?_
            refine brF ?_
            refine brF ?_
            refine brI H ?_ ?_ <;> clear H <;> intro _ H
            ·exact E H
            ·exact hL1 _ _ _ _ _ _ _ _ _ _ _ _ _ H (by omega) (cI [.old 0] [.old 0] [.old 0])
          ·exact hL0 _ _ _ _ _ _ _ _ _ _ H (by omega) (cI [.old 0] [.old 0] [.old 0])
        ·replace H := oA H
         obtain ⟨_, H⟩ := H
         replace H := oA H
         obtain ⟨_, H⟩ := H
         refine exV ?_
         refine aA ?_
         refine exR (i := 0) ?_
         refine aA ?_
         refine exI (i := 0) ?_
         exact E H
/-! impl_oneIf -/
noncomputable def lv95 : Nat → List Nat := atL []
noncomputable def dr95 : Nat → Dr := atD []
theorem ok95 : bodyOk dr95 Try.f95 = true := by kernel_rfl
set_option maxHeartbeats 8000000 in
theorem impl_oneIf.pr {a0 : Bool} {r : (Int)} (H : impl_oneIf.f a0 = some r) : Promise Try.prog tb 95 [.bool a0] (.int .i64 r) := by
  have E := @reF _ (fun r : (Int) => .int .i64 r) r
  refine promise_body tb_ok rfl lv95 dr95 Try.func95 ok95 rfl ?_
  unfold impl_oneIf.f at H
  refine brI H ?_ ?_ <;> clear H <;> intro _ H
  ·exact E H
  ·exact E H
/-! impl_Relation_reduced -/
noncomputable def lv81 : Nat → List Nat := atL [(0, [1, 2, 3, 13, 14, 15]), (2, [2, 8, 38, 39, 40])]
noncomputable def dr81 : Nat → Dr := atD []
theorem ok81 : bodyOk dr81 Try.f81 = true := by kernel_rfl
set_option maxHeartbeats 8000000 in
theorem impl_Relation_reduced.pr {k : Nat} {a0_0 : Int} {a0_1 : Int} {l0_2 : List (List Int)} {l0_3 : List Bool} {r : (Int × Int × (List (List Int)) × List Bool)} {n0 : Nat} {c0 : List AV} {n1 : Nat} (H : impl_Relation_reduced.f k a0_0 a0_1 l0_2 l0_3 = some r) (hn0 : n0 = l0_2.length := by exact ln) (hc0 : mapR view c0 = iis l0_2 := by exact vw) (hn1 : n1 = l0_3.length := by exact ln) : Promise Try.prog tb 81 [.agg [.int .i64 a0_0, .int .i64 a0_1, .lit n0 c0, .lit n1 (bb l0_3)]] (.agg [.int .i64 r.1, .int .i64 r.2.1, .own 23 r.2.2.1.length (ois 3 r.2.2.1), .own 4 r.2.2.2.length (bb r.2.2.2)]) := by
  subst hn0
  subst hn1
  refine Promise.weak (.cons (weak_agg (.cons (Weak.refl _) <| .cons (Weak.refl _) <| .cons (weak_lit hc0) <| .cons (Weak.refl _) <| .nil)) <| .nil) ?_
  have E := @reF _ (fun r : (Int × Int × (List (List Int)) × List Bool) => .agg [.int .i64 r.1, .int .i64 r.2.1, .own 23 r.2.2.1.length (ois 3 r.2.2.1), .own 4 r.2.2.2.length (bb r.2.2.2)]) r
  refine promise_body tb_ok rfl lv81 dr81 Try.func81 ok81 rfl ?_
  unfold impl_Relation_reduced.f at H
  refine aA ?_
  refine exV ?_
  refine L8 (fun a3 a13 a14 a15 a658000 a658001 a658002 a658003 => ⟨asl [(1, .ptr 0 0), (2, .ptr 1 0), (3, R 2 a3.length), (13, .lit a13.length (bb a13)), (14, .int IntKind.i64 a14), (15, .int IntKind.i64 a15)], hp [.box 29 [.int IntKind.i64 a658000, .int IntKind.i64 a658001, .lit a658002.length (iis a658002), .lit a658003.length (bb a658003)], .box 29 [.int IntKind.i64 0, .int IntKind.i64 0, R 3 0, R 4 0], .row 3 0 false (ii a3), .row 23 0 false [], .row 4 0 false []]⟩) impl_Relation_reduced.l0 H (cI [.old 116, .old 132, .old 276] [.old 116, .old 132, .old 276, .nilB 132 2, .nilB 132 3] [.old 116, .old 132, .old 276, .nilB 132 2, .nilB 132 3]) ?_
  clear H
  intro k a3 a13 a14 a15 a658000 a658001 a658002 a658003 L0 hk H hL0
  rw [impl_Relation_reduced.l0] at H
  refine brI H ?_ ?_ <;> clear H <;> intro _ H
  ·replace H := oA H
   obtain ⟨_, H⟩ := H
   replace H := oA H
   obtain ⟨_, H⟩ := H
   replace H := oC H
   obtain ⟨_, C0, H⟩ := H
   replace H := oA H
   obtain ⟨_, H⟩ := H
   refine aA ?_
   refine exB ?_
   refine Exists.intro _ (And.intro (impl_oneIf.pr C0) ?_)
   refine aA ?_
   refine aA ?_
   refine apI ?_
   exact hL0 _ _ _ _ _ _ _ _ _ _ H (by omega) (cI [.old 0, .old 1, .old 2] [.old 0, .old 1, .old 2, .old 3, .old 4] [.old 0, .old 1, .old 2, .old 3, .old 4])
  ·replace H := oC H
   obtain ⟨_, C0, H⟩ := H
   refine exV ?_
   refine Exists.intro _ (And.intro (impl_minimal.pr C0) ?_)
   refine exV ?_
   refine exV ?_
   refine exV ?_
   refine exV ?_
   refine aA ?_
   refine L7 (fun b38 b39 b40 b674000 b674001 b674002 b674003 => ⟨asl [(2, .ptr 0 0), (8, .ptr 1 0), (38, R 2 b38.length), (39, .int IntKind.i64 b39), (40, .int IntKind.i64 b40)], hp [.box 29 [.int IntKind.i64 0, .int IntKind.i64 0, R 3 0, R 4 0], .box 29 [.int IntKind.i64 b674000, .int IntKind.i64 b674001, R 5 b674002.length, R 6 b674003.length], .row 3 0 false (ii b38), .row 23 0 false [], .row 4 0 false [], .row 23 0 false (ois 3 b674002), .row 4 0 false (bb b674003)]⟩) impl_Relation_reduced.l1 H (cI [.old 1, .old 228, .old 569] [.old 1, .old 228, .old 569, .old 3, .old 4, .old 564, .nilB 228 3] [.old 1, .old 228, .old 569, .old 3, .old 4, .old 564, .nilB 228 3]) ?_
   clear H
   intro k b38 b39 b40 b674000 b674001 b674002 b674003 L1 hk H hL1
   rw [impl_Relation_reduced.l1] at H
   refine brI H ?_ ?_ <;> clear H <;> intro _ H
   ·replace H := oA H
    obtain ⟨_, H⟩ := H
    replace H := oA H
    obtain ⟨_, H⟩ := H
    replace H := oA H
    obtain ⟨_, H⟩ := H
    refine aA ?_
    refine exI ?_
    refine exV ?_
    refine aA ?_
    refine aA ?_
    refine apB ?_
    refine aA ?_
    exact hL1 _ _ _ _ _ _ _ _ _ H (by omega) (cI [.old 0, .old 1, .old 2] [.old 0, .old 1, .old 2, .old 3, .old 4, .old 5, .old 6] [.old 0, .old 1, .old 2, .old 3, .old 4, .old 5, .old 6])
   ·refine leE ?_
    refine aA ?_
    refine aA ?_
    refine leE ?_
    refine aA ?_
    exact E H
/-! impl_Relation_limited -/
noncomputable def lv62 : Nat → List Nat := atL []
noncomputable def dr62 : Nat → Dr := atD []
theorem ok62 : bodyOk dr62 Try.f62 = true := by kernel_rfl
set_option maxHeartbeats 8000000 in
theorem impl_Relation_limited.pr {k : Nat} {a0_0 : Int} {a0_1 : Int} {l0_2 : List (List Int)} {l0_3 : List Bool} {r : (Int × Int × (List (List Int)) × List Bool × Bool)} {n0 : Nat} {c0 : List AV} {n1 : Nat} (H : impl_Relation_limited.f k a0_0 a0_1 l0_2 l0_3 = some r) (hn0 : n0 = l0_2.length := by exact ln) (hc0 : mapR view c0 = iis l0_2 := by exact vw) (hn1 : n1 = l0_3.length := by exact ln) : Promise Try.prog tb 62 [.agg [.int .i64 a0_0, .int .i64 a0_1, .lit n0 c0, .lit n1 (bb l0_3)]] (.tup [.agg [.int .i64 r.1, .int .i64 r.2.1, .own 23 r.2.2.1.length (ois 3 r.2.2.1), .own 4 r.2.2.2.1.length (bb r.2.2.2.1)], .bool r.2.2.2.2]) := by
  subst hn0
  subst hn1
  refine Promise.weak (.cons (weak_agg (.cons (Weak.refl _) <| .cons (Weak.refl _) <| .cons (weak_lit hc0) <| .cons (Weak.refl _) <| .nil)) <| .nil) ?_
  have E := @reF _ (fun r : (Int × Int × (List (List Int)) × List Bool × Bool) => .tup [.agg [.int .i64 r.1, .int .i64 r.2.1, .own 23 r.2.2.1.length (ois 3 r.2.2.1), .own 4 r.2.2.2.1.length (bb r.2.2.2.1)], .bool r.2.2.2.2]) r
  refine promise_body tb_ok rfl lv62 dr62 Try.func62 ok62 rfl ?_
  unfold impl_Relation_limited.f at H
  replace H := oC H
  obtain ⟨_, C0, H⟩ := H
  refine aA ?_
  refine leE ?_
  refine aA ?_
  refine Exists.intro _ (And.intro (impl_Relation_reduced.pr C0) ?_)
  refine aA ?_
  refine exV ?_
  refine brI H ?_ ?_ <;> clear H <;> intro _ H
  ·refine aA ?_
   refine leE ?_
   refine aA ?_
   exact E H
  ·refine leE ?_
   refine aA ?_
   refine aA ?_
   refine leE ?_
   refine aA ?_
   exact E H
/-! impl_combined_1 -/
noncomputable def lv74 : Nat → List Nat := atL []
noncomputable def dr74 : Nat → Dr := atD [(1, ⟨[], line [0, 1, 2, 3, 4, 5, 6, 7, 8, 9, 10, 11, 12, 13, 14, 15, 16, 17, 18, 19]⟩)]
theorem ok74 : bodyOk dr74 Try.f74 = true := by kernel_rfl
set_option maxHeartbeats 8000000 in
theorem impl_combined_1.pr {na nb : List (List Int)} {xa xb : List Bool} {p0 p1 p2 p3 a0 a1 a2 : Int} {r : Int × Int} (H : impl_combined_1.f na nb a0 a1 a2 = some r) : Promise Try.prog tb 74 [.agg [.int .i64 a0, .int .i64 a1], .int .i64 a2, .tptr [.int .i64 p0, .int .i64 p1, .lit na.length (iis na), .lit xa.length (bb xa)] 0, .tptr [.int .i64 p2, .int .i64 p3, .lit nb.length (iis nb), .lit xb.length (bb xb)] 0] (.agg [.int .i64 r.1, .int .i64 r.2]) := by
  have E := @reF _ (fun r : Int × Int => .agg [.int .i64 r.1, .int .i64 r.2]) r
  refine promise_body tb_ok rfl lv74 dr74 Try.func74 ok74 rfl ?_
  unfold impl_combined_1.f at H
  replace H := oA H
  obtain ⟨_, H⟩ := H
  replace H := oA H
  obtain ⟨_, H⟩ := H
  replace H := oA H
  obtain ⟨_, H⟩ := H
  replace H := oA H
  obtain ⟨_, H⟩ := H
  replace H := oA H
  obtain ⟨_, H⟩ := H
  replace H := oA H
  obtain ⟨_, H⟩ := H
  replace H := oA H
  obtain ⟨_, H⟩ := H
  refine aA ?_
  refine exV ?_
  refine aA ?_
  refine exV ?_
  refine aA ?_
  refine exR ?_
  refine aA ?_
  refine exI ?_
  refine exV ?_
  refine aA ?_
  refine exV ?_
  refine aA ?_
  refine exR ?_
  refine aA ?_
  refine exI ?_
  refine aA ?_
  refine leE ?_
  refine aA ?_
  exact E H
/-! impl_pairs -/
noncomputable def lv73 : Nat → List Nat := atL [(0, [1, 2, 3, 11, 12, 13, 14]), (2, [1, 2, 3, 11, 12, 13, 14, 15, 33, 34])]
noncomputable def dr73 : Nat → Dr := atD []
theorem ok73 : bodyOk dr73 Try.f73 = true := by kernel_rfl
set_option maxHeartbeats 8000000 in
theorem impl_pairs.pr {k : Nat} {na nb : List (List Int)} {xa xb : List Bool} {p0 p1 q0 q1 a0 a1 a2 a3 : Int} {r : List (Int × Int) × List (List Int) × Bool} (H : impl_pairs.f k na nb a0 a1 a2 a3 = some r) : Promise Try.prog tb 73 [.agg [.int .i64 a0, .int .i64 a1], .int .i64 a2, .int .i64 a3, .fn 74 [.tptr [.int .i64 p0, .int .i64 p1, .lit na.length (iis na), .lit xa.length (bb xa)] 0, .tptr [.int .i64 q0, .int .i64 q1, .lit nb.length (iis nb), .lit xb.length (bb xb)] 0]] (.tup [.own 84 r.1.length (p2 r.1), .own 23 r.2.1.length (ois 3 r.2.1), .bool r.2.2]) := by
  have E := @reF _ (fun r : List (Int × Int) × List (List Int) × Bool => .tup [.own 84 r.1.length (p2 r.1), .own 23 r.2.1.length (ois 3 r.2.1), .bool r.2.2]) r
  refine promise_body tb_ok rfl lv73 dr73 Try.func73 ok73 rfl ?_
  unfold impl_pairs.f at H
  replace H := oA H
  obtain ⟨_, H⟩ := H
  replace H := oA H
  obtain ⟨_, H⟩ := H
  refine aA ?_
  refine leE ?_
  refine aA ?_
  refine leE ?_
  refine aA ?_
  refine And.intro (And.intro (keyP (by assumption) (by assumption) rfl rfl) rfl) ?_
  refine exFe ?_
  refine upE ?_
  refine L7 (fun a901 a902 a1 a2 a11 a13 a14 => ⟨asl [(1, .int IntKind.i64 a1), (2, .int IntKind.i64 a2), (3, .fn 74 [(AV.tptr [AV.int IntKind.i64 p0, AV.int IntKind.i64 p1, AV.lit (List.length a901) (iis a901), AV.lit (List.length xa) (bb xa)] 0), (AV.tptr [AV.int IntKind.i64 q0, AV.int IntKind.i64 q1, AV.lit (List.length a902) (iis a902), AV.lit (List.length xb) (bb xb)] 0)]), (11, R 0 a11.length), (12, .map 1), (13, R 2 a13.length), (14, .int IntKind.i64 a14)], hp [.row 84 0 false (p2 a11), .mp 98 (mpP a11), .row 23 0 false (ois 3 a13)]⟩) impl_pairs.l0 H (cI [.old 436, .old 452, .old 500] [.old 436, .old 452, .old 500] [.old 436, .old 452, .old 500]) ?_
  clear H
  intro k a901 a902 a1 a2 a11 a13 a14 L0 hk H hL0
  rw [impl_pairs.l0] at H
  refine brI H ?_ ?_ <;> clear H <;> intro _ H
  ·refine L10 (fun b901 b902 b1 b2 b11 b13 b14 b15 b33 b34 => ⟨asl [(1, .int IntKind.i64 b1), (2, .int IntKind.i64 b2), (3, .fn 74 [(AV.tptr [AV.int IntKind.i64 p0, AV.int IntKind.i64 p1, AV.lit (List.length b901) (iis b901), AV.lit (List.length xa) (bb xa)] 0), (AV.tptr [AV.int IntKind.i64 q0, AV.int IntKind.i64 q1, AV.lit (List.length b902) (iis b902), AV.lit (List.length xb) (bb xb)] 0)]), (11, R 0 b11.length), (12, .map 1), (13, R 2 b13.length), (14, .int IntKind.i64 b14), (15, R 3 b15.length), (33, .int IntKind.i64 b33), (34, .int IntKind.i64 b34)], hp [.row 84 0 false (p2 b11), .mp 98 (mpP b11), .row 23 0 false (ois 3 b13), .row 3 0 false (ii b15)]⟩) impl_pairs.l1 H (cI [.old 0, .old 1, .old 2, .old 612] [.old 0, .old 1, .old 2, .old 612] [.old 0, .old 1, .old 2, .old 612]) ?_
   clear H
   intro k b901 b902 b1 b2 b11 b13 b14 b15 b33 b34 L1 hk H hL1
   rw [impl_pairs.l1] at H
   refine brI H ?_ ?_ <;> clear H <;> intro _ H
   ·replace H := oA H
    obtain ⟨_, H⟩ := H
    replace H := oA H
    obtain ⟨_, H⟩ := H
    replace H := oC H
    obtain ⟨_, C0, H⟩ := H
    replace H := oA H
    obtain ⟨_, H⟩ := H
    replace H := oA H
    obtain ⟨_, H⟩ := H
    replace H := oA H
    obtain ⟨_, H⟩ := H
    refine aA ?_
    refine exP ?_
    refine Exists.intro _ (And.intro (impl_combined_1.pr C0) ?_)
    refine aA ?_
    refine leE ?_
    refine aA ?_
    refine And.intro (keyP (by assumption) (by assumption) rfl rfl) ?_
    refine exF H ?_ ?_ <;> clear H <;> intro _ H
    ·refine exV ?_
     refine exV ?_
     refine brF ?_
     refine leE ?_
     refine aA ?_
     refine And.intro (keyP (by assumption) (by assumption) rfl rfl) ?_
     refine exF1 (by assumption) ?_
     refine aA ?_
     refine aA ?_
     refine apI ?_
     exact hL1 _ _ _ _ _ _ _ _ _ _ _ _ H (by omega) (cI [.old 0, .old 1, .old 2, .old 3] [.old 0, .old 1, .old 2, .old 3] [.old 0, .old 1, .old 2, .old 3])
    ·replace H := oA H
     obtain ⟨_, H⟩ := H
     refine exV ?_
     refine exV ?_
     refine brT ?_
     refine leE ?_
     refine aA ?_
     refine And.intro (And.intro (keyP (by assumption) (by assumption) rfl rfl) rfl) ?_
     refine exF0 (by assumption) ?_
     refine upN ?_
     refine leE ?_
     refine aA ?_
     refine aA ?_
     refine apP ?_
     refine leE ?_
     refine aA ?_
     refine And.intro (keyP (by assumption) (by assumption) rfl rfl) ?_
     refine exFn (by assumption) ?_
     refine aA ?_
     refine aA ?_
     refine apI ?_
     exact hL1 _ _ _ _ _ _ _ _ _ _ _ _ H (by omega) (cI [.old 0, .old 1, .old 2, .old 3] [.old 0, .old 1, .old 2, .old 3] [.old 0, .old 1, .old 2, .old 3])
   ·replace H := oA H
    obtain ⟨_, H⟩ := H
    refine aA ?_
    refine apO ?_
    refine brI H ?_ ?_ <;> clear H <;> intro _ H
    ·exact E H
    ·exact hL0 _ _ _ _ _ _ _ _ _ H (by omega) (cI [.old 0, .old 1, .old 2] [.old 0, .old 1, .old 2] [.old 0, .old 1, .old 2])
  ·exact E H
/-! impl_combined -/
noncomputable def lv50 : Nat → List Nat := atL [(0, [2, 3, 4, 6, 11, 64, 65, 66])]
noncomputable def dr50 : Nat → Dr := atD [(3, ⟨[], line [0, 1, 2, 3, 4, 6, 7, 8, 9, 10, 11, 12, 13, 5, 14, 15, 16, 17, 18, 19, 20, 21]⟩), (8, ⟨[], line [0, 1, 2, 3, 4, 5, 6, 7, 8, 9, 10, 11, 12, 13]⟩)]
theorem ok50 : bodyOk dr50 Try.f50 = true := by kernel_rfl
set_option maxHeartbeats 8000000 in
theorem impl_combined.pr {k : Nat} {a0_0 : Int} {a0_1 : Int} {l0_2 : List (List Int)} {l0_3 : List Bool} {a1_0 : Int} {a1_1 : Int} {l1_2 : List (List Int)} {l1_3 : List Bool} {a2 : Bool} {r : (Int × Int × List (List Int) × List Bool × Bool)} {n0 : Nat} {c0 : List AV} {n1 : Nat} {n2 : Nat} {c2 : List AV} {n3 : Nat} (H : impl_combined.f k a0_0 a0_1 l0_2 l0_3 a1_0 a1_1 l1_2 l1_3 a2 = some r) (hn0 : n0 = l0_2.length := by exact ln) (hc0 : mapR view c0 = iis l0_2 := by exact vw) (hn1 : n1 = l0_3.length := by exact ln) (hn2 : n2 = l1_2.length := by exact ln) (hc2 : mapR view c2 = iis l1_2 := by exact vw) (hn3 : n3 = l1_3.length := by exact ln) : Promise Try.prog tb 50 [.agg [.int .i64 a0_0, .int .i64 a0_1, .lit n0 c0, .lit n1 (bb l0_3)], .agg [.int .i64 a1_0, .int .i64 a1_1, .lit n2 c2, .lit n3 (bb l1_3)], .bool a2] (.tup [.agg [.int .i64 r.1, .int .i64 r.2.1, .own 23 r.2.2.1.length (ois 3 r.2.2.1), .own 4 r.2.2.2.1.length (bb r.2.2.2.1)], .bool r.2.2.2.2]) := by
  subst hn0
  subst hn1
  subst hn2
  subst hn3
  refine Promise.weak (.cons (weak_agg (.cons (Weak.refl _) <| .cons (Weak.refl _) <| .cons (weak_lit hc0) <| .cons (Weak.refl _) <| .nil)) <| .cons (weak_agg (.cons (Weak.refl _) <| .cons (Weak.refl _) <| .cons (weak_lit hc2) <| .cons (Weak.refl _) <| .nil)) <| .cons (Weak.refl _) <| .nil) ?_
  have E := @reF _ (fun r : (Int × Int × List (List Int) × List Bool × Bool) => .tup [.agg [.int .i64 r.1, .int .i64 r.2.1, .own 23 r.2.2.1.length (ois 3 r.2.2.1), .own 4 r.2.2.2.1.length (bb r.2.2.2.1)], .bool r.2.2.2.2]) r
  refine promise_body tb_ok rfl lv50 dr50 Try.func50 ok50 rfl ?_
  unfold impl_combined.f at H
  replace H := oC H
  obtain ⟨_, C0, H⟩ := H
  refine aA ?_
  refine aA ?_
  refine leE ?_
  refine aA ?_
  refine Exists.intro _ (And.intro (impl_IsRelation.pr C0) ?_)
  refine brN H ?_ ?_ <;> clear H <;> intro _ H
  ·refine brT ?_
   refine brT ?_
   refine brT ?_
   refine brT ?_
   refine brT ?_
   refine brT ?_
   refine brT ?_
   refine brT ?_
   refine brT ?_
   refine brT ?_
   refine brT ?_
   refine brT ?_
   refine brT ?_
   refine brT ?_
   refine brT ?_
   refine brT ?_
   refine aA ?_
   refine leE ?_
   refine aA ?_
   exact E H
  ·replace H := oC H
   obtain ⟨_, C1, H⟩ := H
   refine leE ?_
   refine aA ?_
   refine brF ?_
   refine Exists.intro _ (And.intro (impl_IsRelation.pr C1) ?_)
   refine brF ?_
   refine brF ?_
   refine brN H ?_ ?_ <;> clear H <;> intro _ H
   ·refine brT ?_
    refine brT ?_
    refine brT ?_
    refine brT ?_
    refine brT ?_
    refine brT ?_
    refine brT ?_
    refine brT ?_
    refine brT ?_
    refine brT ?_
    refine brT ?_
    refine brT ?_
    refine aA ?_
    refine leE ?_
    refine aA ?_
    exact E H
   ·refine brF ?_
    refine exV ?_
    refine brF ?_
    refine brF ?_
    refine exV ?_
    refine brF ?_
    refine brF ?_
    refine brN H ?_ ?_ <;> clear H <;> intro _ H
    ·refine brT ?_
     refine brT ?_
     refine brT ?_
     refine brT ?_
     refine brT ?_
     refine brT ?_
     refine aA ?_
     refine leE ?_
     refine aA ?_
     exact E H
    ·refine brF ?_
     refine exV ?_
     refine brF ?_
     refine brF ?_
     refine exV ?_
     refine brF ?_
     refine brF ?_
     refine brN H ?_ ?_ <;> clear H <;> intro _ H
     ·refine aA ?_
      refine leE ?_
      refine aA ?_
      exact E H
     ·replace H := oC H
      obtain ⟨_, C2, H⟩ := H
      replace H := oC H
      obtain ⟨_, C3, H⟩ := H
      refine exV ?_
      refine exV ?_
      refine exV ?_
      refine exV ?_
      refine Exists.intro _ (And.intro (impl_power.pr C2) ?_)
      refine Exists.intro _ (And.intro (impl_pairs.pr C3) ?_)
      refine exV ?_
      refine exV ?_
      refine exV ?_
      refine exV ?_
      refine exV ?_
      refine aA ?_
      refine L16 (fun a2 a64 a65 a66 a903000 a903001 a903002 a903003 a904000 a904001 a904002 a904003 a911000 a911001 a911002 a911003 => ⟨asl [(2, .bool a2), (3, .ptr 0 0), (4, .ptr 1 0), (6, .ptr 2 0), (11, .ptr 3 0), (64, R 4 a64.length), (65, .int IntKind.i64 a65), (66, .int IntKind.i64 a66)], hp [.box 29 [.int IntKind.i64 a903000, .int IntKind.i64 a903001, .lit a903002.length (iis a903002), .lit a903003.length (bb a903003)], .box 29 [.int IntKind.i64 a904000, .int IntKind.i64 a904001, .lit a904002.length (iis a904002), .lit a904003.length (bb a904003)], .box 29 [.int IntKind.i64 0, .int IntKind.i64 0, R 5 0, R 6 0], .box 29 [.int IntKind.i64 a911000, .int IntKind.i64 a911001, R 7 a911002.length, R 8 a911003.length], .row 84 0 false (p2 a64), .row 23 0 false [], .row 4 0 false [], .row 23 0 false (ois 3 a911002), .row 4 0 false (bb a911003)]⟩) impl_combined.l0 H (cI [.old 148, .old 164, .old 196, .old 276, .old 964] [.old 148, .old 164, .old 196, .old 276, .old 964, .nilB 196 2, .nilB 196 3, .old 969, .nilB 276 3] [.old 148, .old 164, .old 196, .old 276, .old 964, .nilB 196 2, .nilB 196 3, .old 969, .nilB 276 3]) ?_
      clear H
      intro k a2 a64 a65 a66 a903000 a903001 a903002 a903003 a904000 a904001 a904002 a904003 a911000 a911001 a911002 a911003 L0 hk H hL0
      rw [impl_combined.l0] at H
      refine brI H ?_ ?_ <;> clear H <;> intro _ H
      ·replace H := oA H
       obtain ⟨_, H⟩ := H
       replace H := oA H
       obtain ⟨_, H⟩ := H
       replace H := oA H
       obtain ⟨_, H⟩ := H
       replace H := oA H
       obtain ⟨_, H⟩ := H
       replace H := oA H
       obtain ⟨_, H⟩ := H
       replace H := oA H
       obtain ⟨_, H⟩ := H
       replace H := oA H
       obtain ⟨_, H⟩ := H
       refine aA ?_
       refine exP ?_
       refine aA ?_
       refine exV ?_
       refine aA ?_
       refine exV ?_
       refine aA ?_
       refine exB ?_
       refine exV ?_
       refine aA ?_
       refine exV ?_
       refine aA ?_
       refine exB ?_
       refine exV ?_
       refine brI H ?_ ?_ <;> clear H <;> intro _ H
       ·refine brT ?_
        refine brI H ?_ ?_ <;> clear H <;> intro _ H
        ·refine brT ?_
         refine brI H ?_ ?_ <;> clear H <;> intro _ H
         ·refine brT ?_
          refine brT ?_
          refine brT ?_
          refine brT ?_
          refine aA ?_
          refine aA ?_
          refine apB ?_
          refine aA ?_
          exact hL0 _ _ _ _ _ _ _ _ _ _ _ _ _ _ _ _ _ _ H (by omega) (cI [.old 0, .old 1, .old 2, .old 3, .old 4] [.old 0, .old 1, .old 2, .old 3, .old 4, .old 5, .old 6, .old 7, .old 8] [.old 0, .old 1, .old 2, .old 3, .old 4, .old 5, .old 6, .old 7, .old 8])
         ·refine brF ?_
          refine brF ?_
          refine brF ?_
          refine brF ?_
          refine brF ?_
          refine brF ?_
          refine brF ?_
          refine brF ?_
          refine aA ?_
          refine aA ?_
          refine apB ?_
          refine aA ?_
          exact hL0 _ _ _ _ _ _ _ _ _ _ _ _ _ _ _ _ _ _ H (by omega) (cI [.old 0, .old 1, .old 2, .old 3, .old 4] [.old 0, .old 1, .old 2, .old 3, .old 4, .old 5, .old 6, .old 7, .old 8] [.old 0, .old 1, .old 2, .old 3, .old 4, .old 5, .old 6, .old 7, .old 8])
        ·refine brF ?_
         refine brF ?_
         refine brF ?_
         refine brF ?_
         refine brF ?_
         refine brF ?_
         refine brF ?_
         refine brF ?_
         refine brF ?_
         refine brF ?_
         refine aA ?_
         refine aA ?_
         refine apB ?_
         refine aA ?_
         exact hL0 _ _ _ _ _ _ _ _ _ _ _ _ _ _ _ _ _ _ H (by omega) (cI [.old 0, .old 1, .old 2, .old 3, .old 4] [.old 0, .old 1, .old 2, .old 3, .old 4, .old 5, .old 6, .old 7, .old 8] [.old 0, .old 1, .old 2, .old 3, .old 4, .old 5, .old 6, .old 7, .old 8])
       ·refine brF ?_
        refine brF ?_
        refine brF ?_
        refine brF ?_
        refine brF ?_
        refine brF ?_
        refine brT ?_
        refine brT ?_
        refine brI H ?_ ?_ <;> clear H <;> intro _ H
        ·refine brT ?_
         refine brT ?_
         refine brF ?_
         refine brT ?_
         refine brF ?_
         refine aA ?_
         refine aA ?_
         refine apB ?_
         refine aA ?_
         exact hL0 _ _ _ _ _ _ _ _ _ _ _ _ _ _ _ _ _ _ H (by omega) (cI [.old 0, .old 1, .old 2, .old 3, .old 4] [.old 0, .old 1, .old 2, .old 3, .old 4, .old 5, .old 6, .old 7, .old 8] [.old 0, .old 1, .old 2, .old 3, .old 4, .old 5, .old 6, .old 7, .old 8])
        ·refine brT ?_
         refine brF ?_
         refine brF ?_
         refine brT ?_
         refine brF ?_
         refine aA ?_
         refine aA ?_
         refine apB ?_
         refine aA ?_
         exact hL0 _ _ _ _ _ _ _ _ _ _ _ _ _ _ _ _ _ _ H (by omega) (cI [.old 0, .old 1, .old 2, .old 3, .old 4] [.old 0, .old 1, .old 2, .old 3, .old 4, .old 5, .old 6, .old 7, .old 8] [.old 0, .old 1, .old 2, .old 3, .old 4, .old 5, .old 6, .old 7, .old 8])
      ·replace H := oC H
       obtain ⟨_, C4, H⟩ := H
       refine leE ?_
       refine aA ?_
       refine Exists.intro _ (And.intro (impl_Relation_limited.pr C4) ?_)
       refine exV ?_
       refine exV ?_
       refine aA ?_
       refine leE ?_
       refine aA ?_
       exact E H
/-! impl_BothRelations -/
noncomputable def lv21 : Nat → List Nat := atL []
noncomputable def dr21 : Nat → Dr := atD []
theorem ok21 : bodyOk dr21 Try.f21 = true := by kernel_rfl
set_option maxHeartbeats 8000000 in
theorem impl_BothRelations.pr {k : Nat} {a0_0 : Int} {a0_1 : Int} {l0_2 : List (List Int)} {l0_3 : List Bool} {a1_0 : Int} {a1_1 : Int} {l1_2 : List (List Int)} {l1_3 : List Bool} {r : (Int × Int × List (List Int) × List Bool × Bool)} {n0 : Nat} {c0 : List AV} {n1 : Nat} {n2 : Nat} {c2 : List AV} {n3 : Nat} (H : impl_BothRelations.f k a0_0 a0_1 l0_2 l0_3 a1_0 a1_1 l1_2 l1_3 = some r) (hn0 : n0 = l0_2.length := by exact ln) (hc0 : mapR view c0 = iis l0_2 := by exact vw) (hn1 : n1 = l0_3.length := by exact ln) (hn2 : n2 = l1_2.length := by exact ln) (hc2 : mapR view c2 = iis l1_2 := by exact vw) (hn3 : n3 = l1_3.length := by exact ln) : Promise Try.prog tb 21 [.agg [.int .i64 a0_0, .int .i64 a0_1, .lit n0 c0, .lit n1 (bb l0_3)], .agg [.int .i64 a1_0, .int .i64 a1_1, .lit n2 c2, .lit n3 (bb l1_3)]] (.tup [.agg [.int .i64 r.1, .int .i64 r.2.1, .own 23 r.2.2.1.length (ois 3 r.2.2.1), .own 4 r.2.2.2.1.length (bb r.2.2.2.1)], .bool r.2.2.2.2]) := by
  subst hn0
  subst hn1
  subst hn2
  subst hn3
  refine Promise.weak (.cons (weak_agg (.cons (Weak.refl _) <| .cons (Weak.refl _) <| .cons (weak_lit hc0) <| .cons (Weak.refl _) <| .nil)) <| .cons (weak_agg (.cons (Weak.refl _) <| .cons (Weak.refl _) <| .cons (weak_lit hc2) <| .cons (Weak.refl _) <| .nil)) <| .nil) ?_
  have E := @reF _ (fun r : (Int × Int × List (List Int) × List Bool × Bool) => .tup [.agg [.int .i64 r.1, .int .i64 r.2.1, .own 23 r.2.2.1.length (ois 3 r.2.2.1), .own 4 r.2.2.2.1.length (bb r.2.2.2.1)], .bool r.2.2.2.2]) r
  refine promise_body tb_ok rfl lv21 dr21 Try.func21 ok21 rfl ?_
  unfold impl_BothRelations.f at H
  replace H := oC H
  obtain ⟨_, C0, H⟩ := H
  refine aA ?_
  refine aA ?_
  refine leE ?_
  refine aA ?_
  refine leE ?_
  refine aA ?_
  refine Exists.intro _ (And.intro (impl_combined.pr C0) ?_)
  refine exV ?_
  refine exV ?_
  refine aA ?_
  refine leE ?_
  refine aA ?_
  exact E H
/-! laws_FnExactBothRelations -/
noncomputable def lv4 : Nat → List Nat := atL []
noncomputable def dr4 : Nat → Dr := atD [(8, ⟨[(1, 0, [196]), (3, 0, [196]), (4, 0, [196]), (5, 0, [196]), (6, 0, [196]), (7, 2, [196])], line [0, 2, 8, 1, 3, 4, 5, 6, 7, 9, 10]⟩), (14, ⟨[], line [0, 1, 2, 3, 4]⟩), (16, ⟨[], line [0, 1, 2, 3, 4]⟩), (31, ⟨[(1, 0, [340]), (3, 0, [340]), (4, 0, [340]), (5, 0, [340]), (6, 0, [340]), (7, 2, [340])], line [0, 2, 8, 1, 3, 4, 5, 6, 7, 9, 10]⟩)]
theorem ok4 : bodyOk dr4 Try.f4 = true := by kernel_rfl
set_option maxHeartbeats 8000000 in
theorem laws_FnExactBothRelations.pr {k : Nat} {a0_0 : Int} {a0_1 : Int} {l0_2 : List (List Int)} {l0_3 : List Bool} {a1_0 : Int} {a1_1 : Int} {l1_2 : List (List Int)} {l1_3 : List Bool} {r : Bool} (H : laws_FnExactBothRelations.f k a0_0 a0_1 l0_2 l0_3 a1_0 a1_1 l1_2 l1_3 = some r) : Contract Try.prog tb 4 [.agg [.int .i64 a0_0, .int .i64 a0_1, .lit l0_2.length (iis l0_2), .lit l0_3.length (bb l0_3)], .agg [.int .i64 a1_0, .int .i64 a1_1, .lit l1_2.length (iis l1_2), .lit l1_3.length (bb l1_3)]] (.bool r) := by
  have E := @reF _ (fun r : Bool => .bool r) r
  refine law_body tb_ok rfl lv4 dr4 Try.func4 ok4 (xs := [.agg [.int .i64 a0_0, .int .i64 a0_1, .xr 16, .xr 17], .agg [.int .i64 a1_0, .int .i64 a1_1, .xr 18, .xr 19]]) (ex := [(l0_2.length, (iis l0_2)), (l0_3.length, (bb l0_3)), (l1_2.length, (iis l1_2)), (l1_3.length, (bb l1_3))]) rfl ?_
  unfold laws_FnExactBothRelations.f at H
  replace H := oC H
  obtain ⟨_, C0, H⟩ := H
  refine aA ?_
  refine aA ?_
  refine leE ?_
  refine aA ?_
  refine Exists.intro _ (And.intro (laws_szRelation.pr C0) ?_)
  refine brI H ?_ ?_ <;> clear H <;> intro _ H
  ·exact E H
  ·replace H := oC H
   obtain ⟨_, C1, H⟩ := H
   refine leE ?_
   refine aA ?_
   refine Exists.intro _ (And.intro (laws_szRelation.pr C1) ?_)
   refine brI H ?_ ?_ <;> clear H <;> intro _ H
   ·exact E H
   ·replace H := oC H
    obtain ⟨_, C2, H⟩ := H
    replace H := oC H
    obtain ⟨_, C3, H⟩ := H
    replace H := oC H
    obtain ⟨_, C4, H⟩ := H
    replace H := oC H
    obtain ⟨_, C5, H⟩ := H
    replace H := oC H
    obtain ⟨_, C6, H⟩ := H
    replace H := oA H
    obtain ⟨_, H⟩ := H
    replace H := oA H
    obtain ⟨_, H⟩ := H
    replace H := oC H
    obtain ⟨_, C7, H⟩ := H
    replace H := oA H
    obtain ⟨_, H⟩ := H
    replace H := oC H
    obtain ⟨_, C8, H⟩ := H
    replace H := oA H
    obtain ⟨_, H⟩ := H
    replace H := oC H
    obtain ⟨_, C9, H⟩ := H
    replace H := oC H
    obtain ⟨_, C10, H⟩ := H
    replace H := oA H
    obtain ⟨_, H⟩ := H
    replace H := oA H
    obtain ⟨_, H⟩ := H
    replace H := oA H
    obtain ⟨_, H⟩ := H
    replace H := oC H
    obtain ⟨_, C11, H⟩ := H
    replace H := oC H
    obtain ⟨_, C12, H⟩ := H
    replace H := oA H
    obtain ⟨_, H⟩ := H
    replace H := oA H
    obtain ⟨_, H⟩ := H
    replace H := oA H
    obtain ⟨_, H⟩ := H
    replace H := oA H
    obtain ⟨_, H⟩ := H
    replace H := oA H
    obtain ⟨_, H⟩ := H
    replace H := oA H
    obtain ⟨_, H⟩ := H
    refine leE ?_
    refine aA ?_
    refine leE ?_
    refine aA ?_
    refine Exists.intro _ (And.intro (laws_toRelation.pr C2) ?_)
    refine Exists.intro _ (And.intro (laws_toRelation.pr C3) ?_)
    refine Exists.intro _ (And.intro (spec_BothRelations.pr C4) ?_)
    refine exV ?_
    refine exV ?_
    refine aA ?_
    refine leE ?_
    refine aA ?_
    refine Exists.intro _ (And.intro (laws_toRelation.pr C2) ?_)
    refine aA ?_
    refine leE ?_
    refine aA ?_
    refine Exists.intro _ (And.intro (laws_toRelation.pr C3) ?_)
    refine aA ?_
    refine leE ?_
    refine aA ?_
    refine leE ?_
    refine aA ?_
    refine Exists.intro _ (And.intro (impl_BothRelations.pr C5) ?_)
    refine exV ?_
    refine exV ?_
    refine aA ?_
    refine leE ?_
    refine aA ?_
    refine leE ?_
    refine aA ?_
    refine Exists.intro _ (And.intro (laws_eqRelation.pr C6) ?_)
    refine brF ?_
    refine brF ?_
    refine brF ?_
    refine brF ?_
    refine brF ?_
    refine leE ?_
    refine aA ?_
    refine leE ?_
    refine aA ?_
    refine Exists.intro _ (And.intro (laws_toRelation.pr C2) ?_)
    refine Exists.intro _ (And.intro (laws_eqRelation.pr C7) ?_)
    refine brF ?_
    refine leE ?_
    refine aA ?_
    refine leE ?_
    refine aA ?_
    refine Exists.intro _ (And.intro (laws_toRelation.pr C3) ?_)
    refine Exists.intro _ (And.intro (laws_eqRelation.pr C8) ?_)
    refine brF ?_
    refine leE ?_
    refine aA ?_
    have LC9 := laws_markRelation.len C9
    refine exW (laws_markRelation.pr C9) ?_
    refine leE ?_
    refine aA ?_
    have LC10 := laws_markRelation.len C10
    refine exW (laws_markRelation.pr C10) ?_
    refine brF ?_
    refine leE ?_
    refine aA ?_
    refine brF ?_
    refine leE ?_
    refine aA ?_
    refine brF ?_
    refine Exists.intro _ (And.intro (laws_eqRelation.pr C6) ?_)
    refine brF ?_
    refine brF ?_
    refine brF ?_
    refine brF ?_
    refine brF ?_
    refine brF ?_
    refine brF ?_
    refine leE ?_
    refine aA ?_
    have LC11 := laws_markRelation.len C11
    refine exW (laws_markRelation.pr C11) ?_
    refine leE ?_
    refine aA ?_
    refine Exists.intro _ (And.intro (laws_heldRelation.pr C12) ?_)
    refine brF ?_
    refine brF ?_
    refine leE ?_
    refine aA ?_
    refine leE ?_
    refine aA ?_
    refine Exists.intro _ (And.intro (laws_toRelation.pr C2) ?_)
    refine Exists.intro _ (And.intro (laws_toRelation.pr C3) ?_)
    refine Exists.intro _ (And.intro (impl_BothRelations.pr C5) ?_)
    refine exV ?_
    refine exV ?_
    refine aA ?_
    refine leE ?_
    refine aA ?_
    refine leE ?_
    refine aA ?_
    refine Exists.intro _ (And.intro (laws_eqRelation.pr C6) ?_)
    refine brF ?_
    refine brF ?_
    refine brF ?_
    refine brF ?_
    refine brF ?_
    refine leE ?_
    refine aA ?_
    refine Exists.intro _ (And.intro (laws_heldRelation.pr C12) ?_)
    refine brF ?_
    refine brF ?_
    exact E H
/-! spec_EitherRelation -/
noncomputable def lv22 : Nat → List Nat := atL []
noncomputable def dr22 : Nat → Dr := atD []
theorem ok22 : bodyOk dr22 Try.f22 = true := by kernel_rfl
set_option maxHeartbeats 8000000 in
theorem spec_EitherRelation.pr {k : Nat} {a0_0 : Int} {a0_1 : Int} {l0_2 : List (List Int)} {l0_3 : List Bool} {a1_0 : Int} {a1_1 : Int} {l1_2 : List (List Int)} {l1_3 : List Bool} {r : (Int × Int × (List (List Int)) × List Bool × Bool)} {n0 : Nat} {c0 : List AV} {n1 : Nat} {n2 : Nat} {c2 : List AV} {n3 : Nat} (H : spec_EitherRelation.f k a0_0 a0_1 l0_2 l0_3 a1_0 a1_1 l1_2 l1_3 = some r) (hn0 : n0 = l0_2.length := by exact ln) (hc0 : mapR view c0 = iis l0_2 := by exact vw) (hn1 : n1 = l0_3.length := by exact ln) (hn2 : n2 = l1_2.length := by exact ln) (hc2 : mapR view c2 = iis l1_2 := by exact vw) (hn3 : n3 = l1_3.length := by exact ln) : Promise Try.prog tb 22 [.agg [.int .i64 a0_0, .int .i64 a0_1, .lit n0 c0, .lit n1 (bb l0_3)], .agg [.int .i64 a1_0, .int .i64 a1_1, .lit n2 c2, .lit n3 (bb l1_3)]] (.tup [.agg [.int .i64 r.1, .int .i64 r.2.1, .own 23 r.2.2.1.length (ois 3 r.2.2.1), .own 4 r.2.2.2.1.length (bb r.2.2.2.1)], .bool r.2.2.2.2]) := by
  subst hn0
  subst hn1
  subst hn2
  subst hn3
  refine Promise.weak (.cons (weak_agg (.cons (Weak.refl _) <| .cons (Weak.refl _) <| .cons (weak_lit hc0) <| .cons (Weak.refl _) <| .nil)) <| .cons (weak_agg (.cons (Weak.refl _) <| .cons (Weak.refl _) <| .cons (weak_lit hc2) <| .cons (Weak.refl _) <| .nil)) <| .nil) ?_
  have E := @reF _ (fun r : (Int × Int × (List (List Int)) × List Bool × Bool) => .tup [.agg [.int .i64 r.1, .int .i64 r.2.1, .own 23 r.2.2.1.length (ois 3 r.2.2.1), .own 4 r.2.2.2.1.length (bb r.2.2.2.1)], .bool r.2.2.2.2]) r
  refine promise_body tb_ok rfl lv22 dr22 Try.func22 ok22 rfl ?_
  unfold spec_EitherRelation.f at H
  replace H := oC H
  obtain ⟨_, C0, H⟩ := H
  refine aA ?_
  refine aA ?_
  refine leE ?_
  refine aA ?_
  refine leE ?_
  refine aA ?_
  refine Exists.intro _ (And.intro (spec_l14Both.pr C0) ?_)
  refine exV ?_
  refine exV ?_
  refine aA ?_
  refine leE ?_
  refine aA ?_
  refine aA ?_
  refine leE ?_
  refine aA ?_
  exact E H
end Go.Ev
