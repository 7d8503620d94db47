/- Walks of functions with the plain evaluator: what each computes -/
import Derived.Test.YtefelghmmpmigaaEh3
import Derived.Test.YtefelghmmpmigaaEx
import Derived.Test.YtefelghmmpmigaaW0
import Derived.Test.YtefelghmmpmigaaW1
namespace Go.Ev
open Go.Proofs Go Go.Proofs.YtefelghmmpmigaaW.PrintWords Go.Proofs.Ytefelghmmpmigaa.Q
set_option maxRecDepth 100000
set_option linter.unusedVariables false
attribute [local irreducible] br Loop
/-! spec_l13Copy -/
noncomputable def lv82 : Nat → List Nat := atL [(0, [1, 2, 3, 4])]
noncomputable def dr82 : Nat → Dr := atD [(1, ⟨[(0, 1, []), (1, 1, []), (2, 1, []), (3, 1, []), (4, 0, [148]), (5, 1, []), (6, 1, []), (7, 0, [148]), (8, 0, [148])], line [0, 1, 2, 3, 5, 6, 9, 4, 7, 8, 10]⟩), (5, ⟨[(0, 1, []), (1, 1, []), (3, 1, []), (4, 1, []), (5, 1, []), (6, 1, []), (7, 1, [])], line [0, 1, 3, 4, 5, 6, 7, 2, 8, 9, 10, 11, 12]⟩)]
theorem ok82 : bodyOk dr82 Try.f82 = true := by kernel_rfl
set_option maxHeartbeats 8000000 in
theorem spec_l13Copy.pr {k : Nat} {a0_0 : Int} {a0_1 : Int} {l0_2 : List (List Int)} {l0_3 : List Bool} {r : (Int × Int × (List (List Int)) × List Bool)} {n0 : Nat} {c0 : List AV} {n1 : Nat} (H : spec_l13Copy.f k a0_0 a0_1 l0_2 l0_3 = some r) (hn0 : n0 = l0_2.length := by exact ln) (hc0 : mapR view c0 = iis l0_2 := by exact vw) (hn1 : n1 = l0_3.length := by exact ln) : Promise Try.prog tb 82 [.agg [.int .i64 a0_0, .int .i64 a0_1, .lit n0 c0, .lit n1 (bb l0_3)]] (.agg [.int .i64 r.1, .int .i64 r.2.1, .own 23 r.2.2.1.length (ois 3 r.2.2.1), .own 4 r.2.2.2.length (bb r.2.2.2)]) := by
  subst hn0
  subst hn1
  refine Promise.weak (.cons (weak_agg (.cons (Weak.refl _) <| .cons (Weak.refl _) <| .cons (weak_lit hc0) <| .cons (Weak.refl _) <| .nil)) <| .nil) ?_
  have E := @reF _ (fun r : (Int × Int × (List (List Int)) × List Bool) => .agg [.int .i64 r.1, .int .i64 r.2.1, .own 23 r.2.2.1.length (ois 3 r.2.2.1), .own 4 r.2.2.2.length (bb r.2.2.2)]) r
  refine promise_body tb_ok rfl lv82 dr82 Try.func82 ok82 rfl ?_
  unfold spec_l13Copy.f at H
  replace H := oD H
  replace H := oA H
  obtain ⟨_, H⟩ := H
  refine aA ?_
  refine exV ?_
  refine exV ?_
  refine exV ?_
  refine aA ?_
  refine aA ?_
  refine leE ?_
  refine aA ?_
  refine leE ?_
  refine L9 (fun a4 a863000 a863001 a863002 a863003 a871000 a871001 a871002 a871003 => ⟨asl [(1, .ptr 0 0), (2, .ptr 1 0), (3, .ptr 2 0), (4, .int IntKind.i64 a4)], hp [.box 29 [.int IntKind.i64 a863000, .int IntKind.i64 a863001, .lit a863002.length (iis a863002), .lit a863003.length (bb a863003)], .box 29 [.int IntKind.i64 0, .int IntKind.i64 0, R 3 0, R 4 0], .box 29 [.int IntKind.i64 a871000, .int IntKind.i64 a871001, R 5 a871002.length, R 6 a871003.length], .row 23 0 false [], .row 4 0 false [], .row 23 0 false (ois 3 a871002), .row 4 0 false (bb a871003)]⟩) spec_l13Copy.l0 H (cI [.old 116, .old 132, .old 148] [.old 116, .old 132, .old 148, .nilB 132 2, .nilB 132 3, .nilB 148 2, .old 244] [.old 116, .old 132, .old 148, .nilB 132 2, .nilB 132 3, .nilB 148 2, .old 244]) ?_
  clear H
  intro k a4 a863000 a863001 a863002 a863003 a871000 a871001 a871002 a871003 L0 hk H hL0
  rw [spec_l13Copy.l0] at H
  refine exV ?_
  refine brI H ?_ ?_ <;> clear H <;> intro _ H
  ·replace H := oD H
   replace H := oA H
   obtain ⟨_, H⟩ := H
   replace H := oA H
   obtain ⟨_, H⟩ := H
   replace H := oA H
   obtain ⟨_, H⟩ := H
   refine exV ?_
   refine exV ?_
   refine aA ?_
   refine exR ?_
   refine aA ?_
   refine aA ?_
   refine leE ?_
   refine aA ?_
   refine apO ?_
   refine aA ?_
   refine leE ?_
   exact hL0 _ _ _ _ _ _ _ _ _ _ _ H (by omega) (cI [.old 0, .old 1, .old 2] [.old 0, .old 1, .old 2, .old 3, .old 4, .old 5, .old 6] [.old 0, .old 1, .old 2, .old 3, .old 4, .old 5, .old 6])
  ·refine leE ?_
   refine aA ?_
   refine aA ?_
   refine leE ?_
   refine leE ?_
   refine aA ?_
   exact E H
/-! spec_NotRelation -/
noncomputable def lv63 : Nat → List Nat := atL [(0, [1, 2, 4, 5])]
noncomputable def dr63 : Nat → Dr := atD [(7, ⟨[], line [0, 1, 2, 3, 4, 5, 6, 7, 8, 9, 10]⟩)]
theorem ok63 : bodyOk dr63 Try.f63 = true := by kernel_rfl
set_option maxHeartbeats 8000000 in
theorem spec_NotRelation.pr {k : Nat} {a0_0 : Int} {a0_1 : Int} {l0_2 : List (List Int)} {l0_3 : List Bool} {r : (Int × Int × (List (List Int)) × List Bool × Bool)} {n0 : Nat} {c0 : List AV} {n1 : Nat} (H : spec_NotRelation.f k a0_0 a0_1 l0_2 l0_3 = some r) (hn0 : n0 = l0_2.length := by exact ln) (hc0 : mapR view c0 = iis l0_2 := by exact vw) (hn1 : n1 = l0_3.length := by exact ln) : Promise Try.prog tb 63 [.agg [.int .i64 a0_0, .int .i64 a0_1, .lit n0 c0, .lit n1 (bb l0_3)]] (.tup [.agg [.int .i64 r.1, .int .i64 r.2.1, .own 23 r.2.2.1.length (ois 3 r.2.2.1), .own 4 r.2.2.2.1.length (bb r.2.2.2.1)], .bool r.2.2.2.2]) := by
  subst hn0
  subst hn1
  refine Promise.weak (.cons (weak_agg (.cons (Weak.refl _) <| .cons (Weak.refl _) <| .cons (weak_lit hc0) <| .cons (Weak.refl _) <| .nil)) <| .nil) ?_
  have E := @reF _ (fun r : (Int × Int × (List (List Int)) × List Bool × Bool) => .tup [.agg [.int .i64 r.1, .int .i64 r.2.1, .own 23 r.2.2.1.length (ois 3 r.2.2.1), .own 4 r.2.2.2.1.length (bb r.2.2.2.1)], .bool r.2.2.2.2]) r
  refine promise_body tb_ok rfl lv63 dr63 Try.func63 ok63 rfl ?_
  unfold spec_NotRelation.f at H
  replace H := oC H
  obtain ⟨_, C0, H⟩ := H
  refine aA ?_
  refine leE ?_
  refine aA ?_
  refine Exists.intro _ (And.intro (spec_IsRelation.pr C0) ?_)
  refine brN H ?_ ?_ <;> clear H <;> intro _ H
  ·refine aA ?_
   refine leE ?_
   refine leE ?_
   refine aA ?_
   exact E H
  ·replace H := oC H
   obtain ⟨_, C1, H⟩ := H
   refine leE ?_
   refine aA ?_
   refine Exists.intro _ (And.intro (spec_l13Copy.pr C1) ?_)
   refine aA ?_
   refine leE ?_
   refine L9 (fun a5 a882000 a882001 a882002 a882003 a893000 a893001 a893002 a893003 => ⟨asl [(1, .ptr 0 0), (2, .ptr 1 0), (4, .ptr 2 0), (5, .int IntKind.i64 a5)], hp [.box 29 [.int IntKind.i64 a882000, .int IntKind.i64 a882001, .lit a882002.length (iis a882002), .lit a882003.length (bb a882003)], .box 29 [.int IntKind.i64 0, .int IntKind.i64 0, R 3 0, R 4 0], .box 29 [.int IntKind.i64 a893000, .int IntKind.i64 a893001, R 5 a893002.length, R 6 a893003.length], .row 23 0 false [], .row 4 0 false [], .row 23 0 false (ois 3 a893002), .row 4 0 false (bb a893003)]⟩) spec_NotRelation.l0 H (cI [.old 116, .old 132, .old 164] [.old 116, .old 132, .old 164, .nilB 132 2, .nilB 132 3, .old 310, .old 311] [.old 116, .old 132, .old 164, .nilB 132 2, .nilB 132 3, .old 310, .old 311]) ?_
   clear H
   intro k a5 a882000 a882001 a882002 a882003 a893000 a893001 a893002 a893003 L0 hk H hL0
   rw [spec_NotRelation.l0] at H
   refine exV ?_
   refine brI H ?_ ?_ <;> clear H <;> intro _ H
   ·replace H := oA H
    obtain ⟨_, H⟩ := H
    replace H := oA H
    obtain ⟨_, H⟩ := H
    refine exV ?_
    refine exV ?_
    refine aA ?_
    refine exB ?_
    refine aA ?_
    refine aA ?_
    refine seB ?_
    exact hL0 _ _ _ _ _ _ _ _ _ _ _ H (by omega) (cI [.old 0, .old 1, .old 2] [.old 0, .old 1, .old 2, .old 3, .old 4, .old 5, .old 6] [.old 0, .old 1, .old 2, .old 3, .old 4, .old 5, .old 6])
   ·replace H := oC H
    obtain ⟨_, C2, H⟩ := H
    refine leE ?_
    refine aA ?_
    refine Exists.intro _ (And.intro (spec_ReducedRelation.pr C2) ?_)
    refine exV ?_
    refine exV ?_
    refine aA ?_
    refine leE ?_
    refine leE ?_
    refine aA ?_
    refine aA ?_
    refine leE ?_
    refine leE ?_
    refine aA ?_
    exact E H
/-! spec_AllTrack -/
noncomputable def lv26 : Nat → List Nat := atL []
noncomputable def dr26 : Nat → Dr := atD []
theorem ok26 : bodyOk dr26 Try.f26 = true := by kernel_rfl
set_option maxHeartbeats 8000000 in
theorem spec_AllTrack.pr {k : Nat} {a0_0 : Int} {a0_1 : Int} {l0_2 : List (List Int)} {l0_3 : List Bool} {a1 : Int} {r : (Int × Int × (List (List Int)) × List Bool × Bool)} {n0 : Nat} {c0 : List AV} {n1 : Nat} (H : spec_AllTrack.f k a0_0 a0_1 l0_2 l0_3 a1 = some r) (hn0 : n0 = l0_2.length := by exact ln) (hc0 : mapR view c0 = iis l0_2 := by exact vw) (hn1 : n1 = l0_3.length := by exact ln) : Promise Try.prog tb 26 [.agg [.int .i64 a0_0, .int .i64 a0_1, .lit n0 c0, .lit n1 (bb l0_3)], .int .i64 a1] (.tup [.agg [.int .i64 r.1, .int .i64 r.2.1, .own 23 r.2.2.1.length (ois 3 r.2.2.1), .own 4 r.2.2.2.1.length (bb r.2.2.2.1)], .bool r.2.2.2.2]) := by
  subst hn0
  subst hn1
  refine Promise.weak (.cons (weak_agg (.cons (Weak.refl _) <| .cons (Weak.refl _) <| .cons (weak_lit hc0) <| .cons (Weak.refl _) <| .nil)) <| .cons (Weak.refl _) <| .nil) ?_
  have E := @reF _ (fun r : (Int × Int × (List (List Int)) × List Bool × Bool) => .tup [.agg [.int .i64 r.1, .int .i64 r.2.1, .own 23 r.2.2.1.length (ois 3 r.2.2.1), .own 4 r.2.2.2.1.length (bb r.2.2.2.1)], .bool r.2.2.2.2]) r
  refine promise_body tb_ok rfl lv26 dr26 Try.func26 ok26 rfl ?_
  unfold spec_AllTrack.f at H
  replace H := oC H
  obtain ⟨_, C0, H⟩ := H
  replace H := oC H
  obtain ⟨_, C1, H⟩ := H
  replace H := oC H
  obtain ⟨_, C2, H⟩ := H
  refine aA ?_
  refine leE ?_
  refine aA ?_
  refine Exists.intro _ (And.intro (spec_NotRelation.pr C0) ?_)
  refine exV ?_
  refine exV ?_
  refine aA ?_
  refine leE ?_
  refine leE ?_
  refine aA ?_
  refine Exists.intro _ (And.intro (spec_ExistsTrack.pr C1) ?_)
  refine exV ?_
  refine exV ?_
  refine aA ?_
  refine leE ?_
  refine leE ?_
  refine aA ?_
  refine Exists.intro _ (And.intro (spec_NotRelation.pr C2) ?_)
  refine exV ?_
  refine exV ?_
  refine aA ?_
  refine leE ?_
  refine brN H ?_ ?_ <;> clear H <;> intro _ H
  ·refine brT ?_
   refine brT ?_
   refine brT ?_
   refine brT ?_
   refine brT ?_
   refine brT ?_
   refine aA ?_
   refine leE ?_
   refine leE ?_
   refine aA ?_
   exact E H
  ·refine brF ?_
   refine brF ?_
   refine brN H ?_ ?_ <;> clear H <;> intro _ H
   ·refine brT ?_
    refine brT ?_
    refine brT ?_
    refine aA ?_
    refine leE ?_
    refine leE ?_
    refine aA ?_
    exact E H
   ·refine brF ?_
    refine brF ?_
    refine brN H ?_ ?_ <;> clear H <;> intro _ H
    ·refine aA ?_
     refine leE ?_
     refine leE ?_
     refine aA ?_
     exact E H
    ·refine leE ?_
     refine aA ?_
     refine aA ?_
     refine leE ?_
     refine leE ?_
     refine aA ?_
     exact E H
/-! impl_isSmallBase -/
noncomputable def lv37 : Nat → List Nat := atL []
noncomputable def dr37 : Nat → Dr := atD []
theorem ok37 : bodyOk dr37 Try.f37 = true := by kernel_rfl
set_option maxHeartbeats 8000000 in
theorem impl_isSmallBase.pr {a0 : Int} {r : (Bool)} (H : impl_isSmallBase.f a0 = some r) : Promise Try.prog tb 37 [.int .i64 a0] (.bool r) := by
  have E := @reF _ (fun r : (Bool) => .bool r) r
  refine promise_body tb_ok rfl lv37 dr37 Try.func37 ok37 rfl ?_
  unfold impl_isSmallBase.f at H
  refine brI H ?_ ?_ <;> clear H <;> intro _ H
  ·refine brT ?_
   refine brT ?_
   exact E H
  ·refine brF ?_
   refine brF ?_
   exact E H
/-! impl_power -/
noncomputable def lv60 : Nat → List Nat := atL [(0, [0, 5, 6, 7])]
noncomputable def dr60 : Nat → Dr := atD []
theorem ok60 : bodyOk dr60 Try.f60 = true := by kernel_rfl
set_option maxHeartbeats 8000000 in
theorem impl_power.pr {k : Nat} {a0 : Int} {a1 : Int} {r : (Int)} (H : impl_power.f k a0 a1 = some r) : Promise Try.prog tb 60 [.int .i64 a0, .int .i64 a1] (.int .i64 r) := by
  have E := @reF _ (fun r : (Int) => .int .i64 r) r
  refine promise_body tb_ok rfl lv60 dr60 Try.func60 ok60 rfl ?_
  unfold impl_power.f at H
  refine L4 (fun a0 a5 a6 a7 => ⟨asl [(0, .int IntKind.i64 a0), (5, .int IntKind.i64 a5), (6, .int IntKind.i64 a6), (7, .int IntKind.i64 a7)], hp []⟩) impl_power.l0 H (cI [] [] []) ?_
  clear H
  intro k a0 a5 a6 a7 L0 hk H hL0
  rw [impl_power.l0] at H
  refine brI H ?_ ?_ <;> clear H <;> intro _ H
  ·exact hL0 _ _ _ _ _ _ H (by omega) (cI [] [] [])
  ·exact E H
/-! impl_IsRelation -/
noncomputable def lv58 : Nat → List Nat := atL [(0, [1, 3, 41, 42, 43]), (2, [1, 3, 41, 42, 43, 55, 56, 57])]
noncomputable def dr58 : Nat → Dr := atD []
theorem ok58 : bodyOk dr58 Try.f58 = true := by kernel_rfl
set_option maxHeartbeats 8000000 in
theorem impl_IsRelation.pr {k : Nat} {a0_0 : Int} {a0_1 : Int} {l0_2 : List (List Int)} {l0_3 : List Bool} {r : (Bool)} {n0 : Nat} {c0 : List AV} {n1 : Nat} (H : impl_IsRelation.f k a0_0 a0_1 l0_2 l0_3 = some r) (hn0 : n0 = l0_2.length := by exact ln) (hc0 : mapR view c0 = iis l0_2 := by exact vw) (hn1 : n1 = l0_3.length := by exact ln) : Promise Try.prog tb 58 [.agg [.int .i64 a0_0, .int .i64 a0_1, .lit n0 c0, .lit n1 (bb l0_3)]] (.bool r) := by
  subst hn0
  subst hn1
  refine Promise.weak (.cons (weak_agg (.cons (Weak.refl _) <| .cons (Weak.refl _) <| .cons (weak_lit hc0) <| .cons (Weak.refl _) <| .nil)) <| .nil) ?_
  have E := @reF _ (fun r : (Bool) => .bool r) r
  refine promise_body tb_ok rfl lv58 dr58 Try.func58 ok58 rfl ?_
  unfold impl_IsRelation.f at H
  replace H := oC H
  obtain ⟨_, C0, H⟩ := H
  refine aA ?_
  refine exV ?_
  refine exV ?_
  refine Exists.intro _ (And.intro (impl_isSmallBase.pr C0) ?_)
  refine brN H ?_ ?_ <;> clear H <;> intro _ H
  ·rcases k with _ | k
   · cases H
   rw [impl_IsRelation.j0] at H
   replace H := oT H
   refine brT ?_
   refine brT ?_
   refine brT ?_
   refine brT ?_
   refine brT ?_
   refine brT ?_
   refine brT ?_
   refine brT ?_
   refine brT ?_
   refine brT ?_
   refine brT ?_
   refine brT ?_
   refine brT ?_
   refine brT ?_
   refine brT ?_
   refine brT ?_
   refine brT ?_
   refine brT ?_
   refine brT ?_
   refine brT ?_
   exact E H
  ·refine brF ?_
   refine exV ?_
   refine brF ?_
   refine brF ?_
   refine brI H ?_ ?_ <;> clear H <;> intro _ H
   ·rcases k with _ | k
    · cases H
    rw [impl_IsRelation.j0] at H
    replace H := oT H
    refine brT ?_
    refine brT ?_
    refine brT ?_
    refine brT ?_
    refine brT ?_
    refine brT ?_
    refine brT ?_
    refine brT ?_
    refine brT ?_
    refine brT ?_
    refine brT ?_
    refine brT ?_
    refine brT ?_
    refine brT ?_
    refine brT ?_
    refine brT ?_
    exact E H
   ·refine brF ?_
    refine exV ?_
    refine brF ?_
    refine brF ?_
    refine brI H ?_ ?_ <;> clear H <;> intro _ H
    ·rcases k with _ | k
     · cases H
     rw [impl_IsRelation.j0] at H
     replace H := oT H
     refine brT ?_
     refine brT ?_
     refine brT ?_
     refine brT ?_
     refine brT ?_
     refine brT ?_
     refine brT ?_
     refine brT ?_
     refine brT ?_
     refine brT ?_
     refine brT ?_
     refine brT ?_
     exact E H
    ·refine brF ?_
     refine brF ?_
     refine brI H ?_ ?_ <;> clear H <;> intro _ H
     ·rcases k with _ | k
      · cases H
      rw [impl_IsRelation.j0] at H
      replace H := oT H
      refine brT ?_
      refine brT ?_
      refine brT ?_
      refine brT ?_
      refine brT ?_
      refine brT ?_
      refine brT ?_
      refine brT ?_
      refine brT ?_
      exact E H
     ·refine brF ?_
      refine brF ?_
      refine brI H ?_ ?_ <;> clear H <;> intro _ H
      ·rcases k with _ | k
       · cases H
       rw [impl_IsRelation.j0] at H
       replace H := oT H
       refine brT ?_
       refine brT ?_
       refine brT ?_
       refine brT ?_
       refine brT ?_
       refine brT ?_
       exact E H
      ·rcases k with _ | k
       · cases H
       rw [impl_IsRelation.j0] at H
       refine brF ?_
       refine exV ?_
       refine brF ?_
       refine brF ?_
       refine brF ?_
       refine brF ?_
       refine brI H ?_ ?_ <;> clear H <;> intro _ H
       ·exact E H
       ·refine exV ?_
        refine L8 (fun a3 a41 a42 a43 a651000 a651001 a651002 a651003 => ⟨asl [(1, .ptr 0 0), (3, .int IntKind.i64 a3), (41, .lit a41.length (iis a41)), (42, .int IntKind.i64 a42), (43, .int IntKind.i64 a43)], hp [.box 29 [.int IntKind.i64 a651000, .int IntKind.i64 a651001, .lit a651002.length (iis a651002), .lit a651003.length (bb a651003)]]⟩) impl_IsRelation.l0 H (cI [.old 116] [.old 116] [.old 116]) ?_
        clear H
        intro k a3 a41 a42 a43 a651000 a651001 a651002 a651003 L0 hk H hL0
        rw [impl_IsRelation.l0] at H
        refine brI H ?_ ?_ <;> clear H <;> intro _ H
        ·replace H := oA H
         obtain ⟨_, H⟩ := H
         replace H := oA H
         obtain ⟨_, H⟩ := H
         replace H := oC H
         obtain ⟨_, C1, H⟩ := H
         refine aA ?_
         refine exR ?_
         refine exV ?_
         refine exV ?_
         refine Exists.intro _ (And.intro (impl_power.pr C1) ?_)
         refine brN H ?_ ?_ <;> clear H <;> intro _ H
         ·exact E H
         ·refine L11 (fun b3 b41 b42 b43 b55 b56 b57 b651000 b651001 b651002 b651003 => ⟨asl [(1, .ptr 0 0), (3, .int IntKind.i64 b3), (41, .lit b41.length (iis b41)), (42, .int IntKind.i64 b42), (43, .int IntKind.i64 b43), (55, .lit b55.length (ii b55)), (56, .int IntKind.i64 b56), (57, .int IntKind.i64 b57)], hp [.box 29 [.int IntKind.i64 b651000, .int IntKind.i64 b651001, .lit b651002.length (iis b651002), .lit b651003.length (bb b651003)]]⟩) impl_IsRelation.l1 H (cI [.old 0] [.old 0] [.old 0]) ?_
          clear H
          intro k b3 b41 b42 b43 b55 b56 b57 b651000 b651001 b651002 b651003 L1 hk H hL1
          rw [impl_IsRelation.l1] at H
          refine brI H ?_ ?_ <;> clear H <;> intro _ H
          ·replace H := oA H
           obtain ⟨_, H⟩ := H
           replace H := oA H
           obtain ⟨_, H⟩ := H
           refine aA ?_
           refine exI ?_
           refine brI H ?_ ?_ <;> clear H <;> intro _ H
           ·refine brT ?_
            refine brT ?_
            refine brT ?_
            refine brT ?_
            exact E H
           ·refine brF ?_
            refine brF ?_
            refine brF ?_
            refine brI H ?_ ?_ <;> clear H <;> intro _ H
            ·exact E H
            ·exact hL1 _ _ _ _ _ _ _ _ _ _ _ _ _ H (by omega) (cI [.old 0] [.old 0] [.old 0])
          ·exact hL0 _ _ _ _ _ _ _ _ _ _ H (by omega) (cI [.old 0] [.old 0] [.old 0])
        ·replace H := oA H
         obtain ⟨_, H⟩ := H
         replace H := oA H
         obtain ⟨_, H⟩ := H
         refine exV ?_
         refine aA ?_
         refine exR (i := 0) ?_
         refine aA ?_
         refine exI (i := 0) ?_
         exact E H
/-! impl_letterOf -/
noncomputable def lv80 : Nat → List Nat := atL [(0, [0, 5, 8, 9, 10])]
noncomputable def dr80 : Nat → Dr := atD []
theorem ok80 : bodyOk dr80 Try.f80 = true := by kernel_rfl
set_option maxHeartbeats 8000000 in
theorem impl_letterOf.pr {k : Nat} {a0 : Int} {l1 : List Int} {r : (Int)} {n0 : Nat} (H : impl_letterOf.f k a0 l1 = some r) (hn0 : n0 = l1.length := by exact ln) : Promise Try.prog tb 80 [.int .i64 a0, .lit n0 (ii l1)] (.int .i64 r) := by
  subst hn0
  have E := @reF _ (fun r : (Int) => .int .i64 r) r
  refine promise_body tb_ok rfl lv80 dr80 Try.func80 ok80 rfl ?_
  unfold impl_letterOf.f at H
  refine L5 (fun a0 a5 a8 a9 a10 => ⟨asl [(0, .int IntKind.i64 a0), (5, .int IntKind.i64 a5), (8, .lit a8.length (ii a8)), (9, .int IntKind.i64 a9), (10, .int IntKind.i64 a10)], hp []⟩) impl_letterOf.l0 H (cI [] [] []) ?_
  clear H
  intro k a0 a5 a8 a9 a10 L0 hk H hL0
  rw [impl_letterOf.l0] at H
  refine brI H ?_ ?_ <;> clear H <;> intro _ H
  ·replace H := oA H
   obtain ⟨_, H⟩ := H
   replace H := oA H
   obtain ⟨_, H⟩ := H
   refine aA ?_
   refine exI ?_
   exact hL0 _ _ _ _ _ _ _ H (by omega) (cI [] [] [])
  ·exact E H
/-! impl_moved -/
noncomputable def lv59 : Nat → List Nat := atL [(0, [2, 4, 5, 8, 9, 10, 21, 22]), (2, [2, 4, 5, 8, 9, 10, 12, 21, 22, 35, 36])]
noncomputable def dr59 : Nat → Dr := atD []
theorem ok59 : bodyOk dr59 Try.f59 = true := by kernel_rfl
set_option maxHeartbeats 8000000 in
theorem impl_moved.pr {k : Nat} {a0_0 : Int} {a0_1 : Int} {l0_2 : List (List Int)} {l0_3 : List Bool} {a1 : A48} {a2 : Int} {l3 : List Int} {r : (A48)} {n0 : Nat} {c0 : List AV} {n1 : Nat} {n2 : Nat} (H : impl_moved.f k a0_0 a0_1 l0_2 l0_3 a1 a2 l3 = some r) (hn0 : n0 = l0_2.length := by exact ln) (hc0 : mapR view c0 = iis l0_2 := by exact vw) (hn1 : n1 = l0_3.length := by exact ln) (hn2 : n2 = l3.length := by exact ln) : Promise Try.prog tb 59 [.agg [.int .i64 a0_0, .int .i64 a0_1, .lit n0 c0, .lit n1 (bb l0_3)], .agg (arr a1), .int .i64 a2, .lit n2 (ii l3)] (.agg (arr r)) := by
  subst hn0
  subst hn1
  subst hn2
  refine Promise.weak (.cons (weak_agg (.cons (Weak.refl _) <| .cons (Weak.refl _) <| .cons (weak_lit hc0) <| .cons (Weak.refl _) <| .nil)) <| .cons (Weak.refl _) <| .cons (Weak.refl _) <| .cons (Weak.refl _) <| .nil) ?_
  have E := @reF _ (fun r : (A48) => .agg (arr r)) r
  refine promise_body tb_ok rfl lv59 dr59 Try.func59 ok59 rfl ?_
  unfold impl_moved.f at H
  replace H := oC H
  obtain ⟨_, C0, H⟩ := H
  replace H := oC H
  obtain ⟨_, C1, H⟩ := H
  refine aA ?_
  refine aA ?_
  refine aA ?_
  refine leE ?_
  refine Exists.intro _ (And.intro (slices_Clone_int_int.pr C0) ?_)
  have LC1 := slices_Insert.len C1
  refine exW (slices_Insert.pr C1) ?_
  refine exV ?_
  refine L8 (fun a2 aw5 a904000 a904002 a10 a21 a22 aw9 => ⟨asl [(2, .int IntKind.i64 a2), (4, .ptr 0 0), (5, .ptr 1 0), (8, .ptr 2 0), (9, .ptr 3 0), (10, R 4 a10.length), (21, .int IntKind.i64 a21), (22, .int IntKind.i64 a22)], hp [.box 29 [.int IntKind.i64 a904000, .int IntKind.i64 a0_1, .lit a904002.length (iis a904002), .lit (List.length l0_3) (bb l0_3)], .box 68 (arr aw5), .box 68 [.bool false, .bool false, .bool false, .bool false, .bool false, .bool false, .bool false, .bool false, .bool false, .bool false, .bool false, .bool false, .bool false, .bool false, .bool false, .bool false, .bool false, .bool false, .bool false, .bool false, .bool false, .bool false, .bool false, .bool false, .bool false, .bool false, .bool false, .bool false, .bool false, .bool false, .bool false, .bool false, .bool false, .bool false, .bool false, .bool false, .bool false, .bool false, .bool false, .bool false, .bool false, .bool false, .bool false, .bool false, .bool false, .bool false, .bool false, .bool false], .box 68 (arr aw9), .row 3 0 false (ii a10)]⟩) impl_moved.l0 H (cI [.old 164, .old 180, .old 228, .old 244, .old 404] [.old 164, .old 180, .old 228, .old 244, .old 404] [.old 164, .old 180, .old 228, .old 244, .old 404]) ?_
  clear H
  intro k a2 aw5 a904000 a904002 a10 a21 a22 aw9 L0 hk H hL0
  rw [impl_moved.l0] at H
  refine brI H ?_ ?_ <;> clear H <;> intro _ H
  ·replace H := oA H
   obtain ⟨_, H⟩ := H
   replace H := oA H
   obtain ⟨_, H⟩ := H
   replace H := oC H
   obtain ⟨_, C2, H⟩ := H
   refine aA ?_
   refine aA ?_
   refine seI ?_
   refine exV ?_
   refine Exists.intro _ (And.intro (impl_letterOf.pr C2) ?_)
   refine exV ?_
   refine L11 (fun b2 bw5 b904000 b904002 b10 b21 b22 bw9 b12 b35 b36 => ⟨asl [(2, .int IntKind.i64 b2), (4, .ptr 0 0), (5, .ptr 1 0), (8, .ptr 2 0), (9, .ptr 3 0), (10, R 4 b10.length), (12, .int IntKind.i64 b12), (21, .int IntKind.i64 b21), (22, .int IntKind.i64 b22), (35, .int IntKind.i64 b35), (36, .int IntKind.i64 b36)], hp [.box 29 [.int IntKind.i64 b904000, .int IntKind.i64 a0_1, .lit b904002.length (iis b904002), .lit (List.length l0_3) (bb l0_3)], .box 68 (arr bw5), .box 68 [.bool false, .bool false, .bool false, .bool false, .bool false, .bool false, .bool false, .bool false, .bool false, .bool false, .bool false, .bool false, .bool false, .bool false, .bool false, .bool false, .bool false, .bool false, .bool false, .bool false, .bool false, .bool false, .bool false, .bool false, .bool false, .bool false, .bool false, .bool false, .bool false, .bool false, .bool false, .bool false, .bool false, .bool false, .bool false, .bool false, .bool false, .bool false, .bool false, .bool false, .bool false, .bool false, .bool false, .bool false, .bool false, .bool false, .bool false, .bool false], .box 68 (arr bw9), .row 3 0 false (ii b10)]⟩) impl_moved.l1 H (cI [.old 0, .old 1, .old 2, .old 3, .old 4] [.old 0, .old 1, .old 2, .old 3, .old 4] [.old 0, .old 1, .old 2, .old 3, .old 4]) ?_
   clear H
   intro k b2 bw5 b904000 b904002 b10 b21 b22 bw9 b12 b35 b36 L1 hk H hL1
   rw [impl_moved.l1] at H
   refine brI H ?_ ?_ <;> clear H <;> intro _ H
   ·replace H := oA H
    obtain ⟨_, H⟩ := H
    replace H := oA H
    obtain ⟨_, H⟩ := H
    refine aA ?_
    refine exAr ?_
    refine brI H ?_ ?_ <;> clear H <;> intro _ H
    ·replace H := oA H
     obtain ⟨_, H⟩ := H
     replace H := oA H
     obtain ⟨_, H⟩ := H
     replace H := oA H
     obtain ⟨_, H⟩ := H
     replace H := oA H
     obtain ⟨_, H⟩ := H
     replace H := oA H
     obtain ⟨_, H⟩ := H
     refine exV ?_
     refine aA ?_
     refine exR ?_
     refine aA ?_
     refine exI ?_
     refine aA ?_
     refine aA ?_
     refine seA ?_
     exact hL1 _ _ _ _ _ _ _ _ _ _ _ _ _ H (by omega) (cI [.old 0, .old 1, .old 2, .old 3, .old 4] [.old 0, .old 1, .old 2, .old 3, .old 4] [.old 0, .old 1, .old 2, .old 3, .old 4])
    ·exact hL1 _ _ _ _ _ _ _ _ _ _ _ _ _ H (by omega) (cI [.old 0, .old 1, .old 2, .old 3, .old 4] [.old 0, .old 1, .old 2, .old 3, .old 4] [.old 0, .old 1, .old 2, .old 3, .old 4])
   ·exact hL0 _ _ _ _ _ _ _ _ _ _ H (by omega) (cI [.old 0, .old 1, .old 2, .old 3, .old 4] [.old 0, .old 1, .old 2, .old 3, .old 4] [.old 0, .old 1, .old 2, .old 3, .old 4])
  ·refine exW48 ?_
   refine aA ?_
   refine seW ?_
   refine exW48 ?_
   exact E H
/-! impl_tracksOf -/
noncomputable def lv61 : Nat → List Nat := atL [(0, [0, 2, 7, 8])]
noncomputable def dr61 : Nat → Dr := atD []
theorem ok61 : bodyOk dr61 Try.f61 = true := by kernel_rfl
set_option maxHeartbeats 8000000 in
theorem impl_tracksOf.pr {k : Nat} {a0 : Int} {a1 : Int} {a2 : Int} {r : (List Int)} (H : impl_tracksOf.f k a0 a1 a2 = some r) : Promise Try.prog tb 61 [.int .i64 a0, .int .i64 a1, .int .i64 a2] (.own 3 r.length (ii r)) := by
  have E := @reF _ (fun r : (List Int) => .own 3 r.length (ii r)) r
  refine promise_body tb_ok rfl lv61 dr61 Try.func61 ok61 rfl ?_
  unfold impl_tracksOf.f at H
  replace H := oA H
  obtain ⟨_, H⟩ := H
  replace H := oA H
  obtain ⟨_, H⟩ := H
  refine aA ?_
  refine aA ?_
  refine mkI ?_
  refine L4 (fun a0 a2 a7 a8 => ⟨asl [(0, .int IntKind.i64 a0), (2, .int IntKind.i64 a2), (7, R 0 a7.length), (8, .int IntKind.i64 a8)], hp [.row 3 0 false (ii a7)]⟩) impl_tracksOf.l0 H (cI [.old 260] [.old 260] [.old 260]) ?_
  clear H
  intro k a0 a2 a7 a8 L0 hk H hL0
  rw [impl_tracksOf.l0] at H
  refine brI H ?_ ?_ <;> clear H <;> intro _ H
  ·replace H := oB H
   obtain ⟨_, H⟩ := H
   replace H := oA H
   obtain ⟨_, H⟩ := H
   replace H := oA H
   obtain ⟨_, H⟩ := H
   refine aA ?_
   refine aA ?_
   refine aA ?_
   refine seI ?_
   refine aA ?_
   exact hL0 _ _ _ _ _ _ H (by omega) (cI [.old 0] [.old 0] [.old 0])
  ·exact E H
/-! impl_oneIf -/
noncomputable def lv95 : Nat → List Nat := atL []
noncomputable def dr95 : Nat → Dr := atD []
theorem ok95 : bodyOk dr95 Try.f95 = true := by kernel_rfl
set_option maxHeartbeats 8000000 in
theorem impl_oneIf.pr {a0 : Bool} {r : (Int)} (H : impl_oneIf.f a0 = some r) : Promise Try.prog tb 95 [.bool a0] (.int .i64 r) := by
  have E := @reF _ (fun r : (Int) => .int .i64 r) r
  refine promise_body tb_ok rfl lv95 dr95 Try.func95 ok95 rfl ?_
  unfold impl_oneIf.f at H
  refine brI H ?_ ?_ <;> clear H <;> intro _ H
  ·exact E H
  ·exact E H
/-! impl_Relation_reduced -/
noncomputable def lv81 : Nat → List Nat := atL [(0, [1, 2, 3, 13, 14, 15]), (2, [2, 8, 38, 39, 40])]
noncomputable def dr81 : Nat → Dr := atD []
theorem ok81 : bodyOk dr81 Try.f81 = true := by kernel_rfl
set_option maxHeartbeats 8000000 in
theorem impl_Relation_reduced.pr {k : Nat} {a0_0 : Int} {a0_1 : Int} {l0_2 : List (List Int)} {l0_3 : List Bool} {r : (Int × Int × (List (List Int)) × List Bool)} {n0 : Nat} {c0 : List AV} {n1 : Nat} (H : impl_Relation_reduced.f k a0_0 a0_1 l0_2 l0_3 = some r) (hn0 : n0 = l0_2.length := by exact ln) (hc0 : mapR view c0 = iis l0_2 := by exact vw) (hn1 : n1 = l0_3.length := by exact ln) : Promise Try.prog tb 81 [.agg [.int .i64 a0_0, .int .i64 a0_1, .lit n0 c0, .lit n1 (bb l0_3)]] (.agg [.int .i64 r.1, .int .i64 r.2.1, .own 23 r.2.2.1.length (ois 3 r.2.2.1), .own 4 r.2.2.2.length (bb r.2.2.2)]) := by
  subst hn0
  subst hn1
  refine Promise.weak (.cons (weak_agg (.cons (Weak.refl _) <| .cons (Weak.refl _) <| .cons (weak_lit hc0) <| .cons (Weak.refl _) <| .nil)) <| .nil) ?_
  have E := @reF _ (fun r : (Int × Int × (List (List Int)) × List Bool) => .agg [.int .i64 r.1, .int .i64 r.2.1, .own 23 r.2.2.1.length (ois 3 r.2.2.1), .own 4 r.2.2.2.length (bb r.2.2.2)]) r
  refine promise_body tb_ok rfl lv81 dr81 Try.func81 ok81 rfl ?_
  unfold impl_Relation_reduced.f at H
  refine aA ?_
  refine exV ?_
  refine L8 (fun a3 a13 a14 a15 a658000 a658001 a658002 a658003 => ⟨asl [(1, .ptr 0 0), (2, .ptr 1 0), (3, R 2 a3.length), (13, .lit a13.length (bb a13)), (14, .int IntKind.i64 a14), (15, .int IntKind.i64 a15)], hp [.box 29 [.int IntKind.i64 a658000, .int IntKind.i64 a658001, .lit a658002.length (iis a658002), .lit a658003.length (bb a658003)], .box 29 [.int IntKind.i64 0, .int IntKind.i64 0, R 3 0, R 4 0], .row 3 0 false (ii a3), .row 23 0 false [], .row 4 0 false []]⟩) impl_Relation_reduced.l0 H (cI [.old 116, .old 132, .old 276] [.old 116, .old 132, .old 276, .nilB 132 2, .nilB 132 3] [.old 116, .old 132, .old 276, .nilB 132 2, .nilB 132 3]) ?_
  clear H
  intro k a3 a13 a14 a15 a658000 a658001 a658002 a658003 L0 hk H hL0
  rw [impl_Relation_reduced.l0] at H
  refine brI H ?_ ?_ <;> clear H <;> intro _ H
  ·replace H := oA H
   obtain ⟨_, H⟩ := H
   replace H := oA H
   obtain ⟨_, H⟩ := H
   replace H := oC H
   obtain ⟨_, C0, H⟩ := H
   replace H := oA H
   obtain ⟨_, H⟩ := H
   refine aA ?_
   refine exB ?_
   refine Exists.intro _ (And.intro (impl_oneIf.pr C0) ?_)
   refine aA ?_
   refine aA ?_
   refine apI ?_
   exact hL0 _ _ _ _ _ _ _ _ _ _ H (by omega) (cI [.old 0, .old 1, .old 2] [.old 0, .old 1, .old 2, .old 3, .old 4] [.old 0, .old 1, .old 2, .old 3, .old 4])
  ·replace H := oC H
   obtain ⟨_, C0, H⟩ := H
   refine exV ?_
   refine Exists.intro _ (And.intro (impl_minimal.pr C0) ?_)
   refine exV ?_
   refine exV ?_
   refine exV ?_
   refine exV ?_
   refine aA ?_
   refine leE ?_
   refine L7 (fun b38 b39 b40 b674000 b674001 b674002 b674003 => ⟨asl [(2, .ptr 0 0), (8, .ptr 1 0), (38, R 2 b38.length), (39, .int IntKind.i64 b39), (40, .int IntKind.i64 b40)], hp [.box 29 [.int IntKind.i64 0, .int IntKind.i64 0, R 3 0, R 4 0], .box 29 [.int IntKind.i64 b674000, .int IntKind.i64 b674001, R 5 b674002.length, R 6 b674003.length], .row 3 0 false (ii b38), .row 23 0 false [], .row 4 0 false [], .row 23 0 false (ois 3 b674002), .row 4 0 false (bb b674003)]⟩) impl_Relation_reduced.l1 H (cI [.old 1, .old 228, .old 569] [.old 1, .old 228, .old 569, .old 3, .old 4, .old 564, .nilB 228 3] [.old 1, .old 228, .old 569, .old 3, .old 4, .old 564, .nilB 228 3]) ?_
   clear H
   intro k b38 b39 b40 b674000 b674001 b674002 b674003 L1 hk H hL1
   rw [impl_Relation_reduced.l1] at H
   refine brI H ?_ ?_ <;> clear H <;> intro _ H
   ·replace H := oA H
    obtain ⟨_, H⟩ := H
    replace H := oA H
    obtain ⟨_, H⟩ := H
    replace H := oA H
    obtain ⟨_, H⟩ := H
    refine aA ?_
    refine exI ?_
    refine exV ?_
    refine aA ?_
    refine aA ?_
    refine apB ?_
    refine aA ?_
    refine leE ?_
    exact hL1 _ _ _ _ _ _ _ _ _ H (by omega) (cI [.old 0, .old 1, .old 2] [.old 0, .old 1, .old 2, .old 3, .old 4, .old 5, .old 6] [.old 0, .old 1, .old 2, .old 3, .old 4, .old 5, .old 6])
   ·refine leE ?_
    refine aA ?_
    refine aA ?_
    refine leE ?_
    refine leE ?_
    refine aA ?_
    exact E H
/-! impl_Relation_limited -/
noncomputable def lv62 : Nat → List Nat := atL []
noncomputable def dr62 : Nat → Dr := atD []
theorem ok62 : bodyOk dr62 Try.f62 = true := by kernel_rfl
set_option maxHeartbeats 8000000 in
theorem impl_Relation_limited.pr {k : Nat} {a0_0 : Int} {a0_1 : Int} {l0_2 : List (List Int)} {l0_3 : List Bool} {r : (Int × Int × (List (List Int)) × List Bool × Bool)} {n0 : Nat} {c0 : List AV} {n1 : Nat} (H : impl_Relation_limited.f k a0_0 a0_1 l0_2 l0_3 = some r) (hn0 : n0 = l0_2.length := by exact ln) (hc0 : mapR view c0 = iis l0_2 := by exact vw) (hn1 : n1 = l0_3.length := by exact ln) : Promise Try.prog tb 62 [.agg [.int .i64 a0_0, .int .i64 a0_1, .lit n0 c0, .lit n1 (bb l0_3)]] (.tup [.agg [.int .i64 r.1, .int .i64 r.2.1, .own 23 r.2.2.1.length (ois 3 r.2.2.1), .own 4 r.2.2.2.1.length (bb r.2.2.2.1)], .bool r.2.2.2.2]) := by
  subst hn0
  subst hn1
  refine Promise.weak (.cons (weak_agg (.cons (Weak.refl _) <| .cons (Weak.refl _) <| .cons (weak_lit hc0) <| .cons (Weak.refl _) <| .nil)) <| .nil) ?_
  have E := @reF _ (fun r : (Int × Int × (List (List Int)) × List Bool × Bool) => .tup [.agg [.int .i64 r.1, .int .i64 r.2.1, .own 23 r.2.2.1.length (ois 3 r.2.2.1), .own 4 r.2.2.2.1.length (bb r.2.2.2.1)], .bool r.2.2.2.2]) r
  refine promise_body tb_ok rfl lv62 dr62 Try.func62 ok62 rfl ?_
  unfold impl_Relation_limited.f at H
  replace H := oC H
  obtain ⟨_, C0, H⟩ := H
  refine aA ?_
  refine leE ?_
  refine aA ?_
  refine Exists.intro _ (And.intro (impl_Relation_reduced.pr C0) ?_)
  refine aA ?_
  refine leE ?_
  refine exV ?_
  refine brI H ?_ ?_ <;> clear H <;> intro _ H
  ·refine aA ?_
   refine leE ?_
   refine leE ?_
   refine aA ?_
   exact E H
  ·refine leE ?_
   refine aA ?_
   refine aA ?_
   refine leE ?_
   refine leE ?_
   refine aA ?_
   exact E H
end Go.Ev
