/- Walks of functions with the plain evaluator: what each computes -/
import Derived.Test.YtefelghmmpmigaaEh2
import Derived.Test.YtefelghmmpmigaaEp
import Derived.Test.YtefelghmmpmigaaF8
import Derived.Test.YtefelghmmpmigaaW0
import Derived.Test.YtefelghmmpmigaaW1
namespace Go.Ev
open Go.Proofs Go Go.Proofs.YtefelghmmpmigaaW.PrintWords Go.Proofs.Ytefelghmmpmigaa.Q
set_option maxRecDepth 100000
set_option linter.unusedVariables false
attribute [local irreducible] br Loop
/-! impl_isSmallBase -/
noncomputable def lv37 : Nat → List Nat := atL []
noncomputable def dr37 : Nat → Dr := atD []
theorem ok37 : bodyOk dr37 Try.f37 = true := by kernel_rfl
set_option maxHeartbeats 8000000 in
theorem impl_isSmallBase.pr {a0 : Int} {r : (Bool)} (H : impl_isSmallBase.f a0 = some r) : Promise Try.prog tb 37 [.int .i64 a0] (.bool r) := by
  have E := @reF _ (fun r : (Bool) => .bool r) r
  refine promise_body tb_ok rfl lv37 dr37 Try.func37 ok37 rfl ?_
  unfold impl_isSmallBase.f at H
  refine brI H ?_ ?_ <;> clear H <;> intro _ H
  ·refine brT ?_
   refine brT ?_
   exact E H
  ·refine brF ?_
   refine brF ?_
   exact E H
/-! impl_isTerm -/
noncomputable def lv38 : Nat → List Nat := atL []
noncomputable def dr38 : Nat → Dr := atD []
theorem ok38 : bodyOk dr38 Try.f38 = true := by kernel_rfl
set_option maxHeartbeats 8000000 in
theorem impl_isTerm.pr {a0 : Int} {r : (Bool)} (H : impl_isTerm.f a0 = some r) : Promise Try.prog tb 38 [.int .i64 a0] (.bool r) := by
  have E := @reF _ (fun r : (Bool) => .bool r) r
  refine promise_body tb_ok rfl lv38 dr38 Try.func38 ok38 rfl ?_
  unfold impl_isTerm.f at H
  refine brI H ?_ ?_ <;> clear H <;> intro _ H
  ·refine brT ?_
   refine brT ?_
   exact E H
  ·refine brF ?_
   refine brF ?_
   exact E H
/-! impl_TermRelation -/
noncomputable def lv12 : Nat → List Nat := atL [(0, [1, 4, 8, 36, 37, 38])]
noncomputable def dr12 : Nat → Dr := atD []
theorem ok12 : bodyOk dr12 Try.f12 = true := by kernel_rfl
set_option maxHeartbeats 8000000 in
theorem impl_TermRelation.pr {k : Nat} {a0_0 : Int} {l0_1 : List (List Int)} {l0_2 : List Int} {a1 : Int} {r : (Int × Int × List (List Int) × List Bool × Bool)} {n0 : Nat} {c0 : List AV} {n1 : Nat} (H : impl_TermRelation.f k a0_0 l0_1 l0_2 a1 = some r) (hn0 : n0 = l0_1.length := by exact ln) (hc0 : mapR view c0 = iis l0_1 := by exact vw) (hn1 : n1 = l0_2.length := by exact ln) : Promise Try.prog tb 12 [.agg [.int .i64 a0_0, .lit n0 c0, .lit n1 (ii l0_2)], .int .i64 a1] (.tup [.agg [.int .i64 r.1, .int .i64 r.2.1, .own 23 r.2.2.1.length (ois 3 r.2.2.1), .own 4 r.2.2.2.1.length (bb r.2.2.2.1)], .bool r.2.2.2.2]) := by
  subst hn0
  subst hn1
  refine Promise.weak (.cons (weak_agg (.cons (Weak.refl _) <| .cons (weak_lit hc0) <| .cons (Weak.refl _) <| .nil)) <| .cons (Weak.refl _) <| .nil) ?_
  have E := @reF _ (fun r : (Int × Int × List (List Int) × List Bool × Bool) => .tup [.agg [.int .i64 r.1, .int .i64 r.2.1, .own 23 r.2.2.1.length (ois 3 r.2.2.1), .own 4 r.2.2.2.1.length (bb r.2.2.2.1)], .bool r.2.2.2.2]) r
  refine promise_body tb_ok rfl lv12 dr12 Try.func12 ok12 rfl ?_
  unfold impl_TermRelation.f at H
  replace H := oC H
  obtain ⟨_, C0, H⟩ := H
  refine aA ?_
  refine leE ?_
  refine aA ?_
  refine Exists.intro _ (And.intro (impl_MinimalForm.pr C0) ?_)
  refine exV ?_
  refine exV ?_
  refine aA ?_
  refine brN H ?_ ?_ <;> clear H <;> intro _ H
  ·refine brT ?_
   refine brT ?_
   refine brT ?_
   refine brT ?_
   refine brT ?_
   refine brT ?_
   refine brT ?_
   refine brT ?_
   refine brT ?_
   refine aA ?_
   refine leE ?_
   refine aA ?_
   exact E H
  ·replace H := oC H
   obtain ⟨_, C1, H⟩ := H
   refine brF ?_
   refine exV ?_
   refine brF ?_
   refine Exists.intro _ (And.intro (impl_isSmallBase.pr C1) ?_)
   refine brF ?_
   refine brF ?_
   refine brN H ?_ ?_ <;> clear H <;> intro _ H
   ·refine brT ?_
    refine brT ?_
    refine brT ?_
    refine brT ?_
    refine aA ?_
    refine leE ?_
    refine aA ?_
    exact E H
   ·replace H := oC H
    obtain ⟨_, C2, H⟩ := H
    refine brF ?_
    refine Exists.intro _ (And.intro (impl_isTerm.pr C2) ?_)
    refine brF ?_
    refine brF ?_
    refine brN H ?_ ?_ <;> clear H <;> intro _ H
    ·refine aA ?_
     refine leE ?_
     refine aA ?_
     exact E H
    ·refine exV ?_
     refine exV ?_
     refine aA ?_
     refine exV ?_
     refine L7 (fun a1 a908000 a908002 a36 a37 a38 a908003 => ⟨asl [(1, .int IntKind.i64 a1), (4, .ptr 0 0), (8, .ptr 1 0), (36, R 2 a36.length), (37, .int IntKind.i64 a37), (38, .int IntKind.i64 a38)], hp [.box 29 [.int IntKind.i64 0, .int IntKind.i64 0, R 3 0, R 4 0], .box 29 [.int IntKind.i64 a908000, .int IntKind.i64 1, R 5 a908002.length, R 6 a908003.length], .row 3 0 false (ii a36), .row 23 0 false [], .row 4 0 false [], .row 23 0 false (ois 3 a908002), .row 4 0 false (bb a908003)]⟩) impl_TermRelation.l0 H (cI [.old 164, .old 228, .old 310] [.old 164, .old 228, .old 310, .nilB 164 2, .nilB 164 3, .old 309, .nilB 228 3] [.old 164, .old 228, .old 310, .nilB 164 2, .nilB 164 3, .old 309, .nilB 228 3]) ?_
     clear H
     intro k a1 a908000 a908002 a36 a37 a38 a908003 L0 hk H hL0
     rw [impl_TermRelation.l0] at H
     refine brI H ?_ ?_ <;> clear H <;> intro _ H
     ·replace H := oA H
      obtain ⟨_, H⟩ := H
      replace H := oA H
      obtain ⟨_, H⟩ := H
      replace H := oA H
      obtain ⟨_, H⟩ := H
      refine aA ?_
      refine exI ?_
      refine exV ?_
      refine aA ?_
      refine aA ?_
      refine apB ?_
      refine aA ?_
      exact hL0 _ _ _ _ _ _ _ _ _ H (by omega) (cI [.old 0, .old 1, .old 2] [.old 0, .old 1, .old 2, .old 3, .old 4, .old 5, .old 6] [.old 0, .old 1, .old 2, .old 3, .old 4, .old 5, .old 6])
     ·refine leE ?_
      refine aA ?_
      refine aA ?_
      refine leE ?_
      refine aA ?_
      exact E H
/-! laws_eqIntS -/
noncomputable def lv41 : Nat → List Nat := atL [(0, [0, 1, 5])]
noncomputable def dr41 : Nat → Dr := atD [(6, ⟨[], line [0, 1, 2, 3, 4, 5, 6, 7, 8]⟩)]
theorem ok41 : bodyOk dr41 Try.f41 = true := by kernel_rfl
set_option maxHeartbeats 8000000 in
theorem laws_eqIntS.pr {k : Nat} {l0 : List Int} {l1 : List Int} {r : (Bool)} {n0 : Nat} {n1 : Nat} (H : laws_eqIntS.f k l0 l1 = some r) (hn0 : n0 = l0.length := by exact ln) (hn1 : n1 = l1.length := by exact ln) : Promise Try.prog tb 41 [.lit n0 (ii l0), .lit n1 (ii l1)] (.bool r) := by
  subst hn0
  subst hn1
  have E := @reF _ (fun r : (Bool) => .bool r) r
  refine promise_body tb_ok rfl lv41 dr41 Try.func41 ok41 rfl ?_
  unfold laws_eqIntS.f at H
  refine brN H ?_ ?_ <;> clear H <;> intro _ H
  ·exact E H
  ·refine L3 (fun a0 a1 a5 => ⟨asl [(0, .lit a0.length (ii a0)), (1, .lit a1.length (ii a1)), (5, .int IntKind.i64 a5)], hp []⟩) laws_eqIntS.l0 H (cI [] [] []) ?_
   clear H
   intro k a0 a1 a5 L0 hk H hL0
   rw [laws_eqIntS.l0] at H
   refine brI H ?_ ?_ <;> clear H <;> intro _ H
   ·replace H := oA H
    obtain ⟨_, H⟩ := H
    replace H := oA H
    obtain ⟨_, H⟩ := H
    refine aA ?_
    refine exI ?_
    refine aA ?_
    refine exI ?_
    refine brN H ?_ ?_ <;> clear H <;> intro _ H
    ·exact E H
    ·exact hL0 _ _ _ _ _ H (by omega) (cI [] [] [])
   ·exact E H
/-! laws_eqIntSS -/
noncomputable def lv39 : Nat → List Nat := atL [(0, [0, 1, 5])]
noncomputable def dr39 : Nat → Dr := atD [(6, ⟨[], line [0, 1, 2, 3, 4, 5, 6, 7, 8, 9]⟩)]
theorem ok39 : bodyOk dr39 Try.f39 = true := by kernel_rfl
set_option maxHeartbeats 8000000 in
theorem laws_eqIntSS.pr {k : Nat} {l0 : List (List Int)} {l1 : List (List Int)} {r : (Bool)} {n0 : Nat} {c0 : List AV} {n1 : Nat} {c1 : List AV} (H : laws_eqIntSS.f k l0 l1 = some r) (hn0 : n0 = l0.length := by exact ln) (hc0 : mapR view c0 = iis l0 := by exact vw) (hn1 : n1 = l1.length := by exact ln) (hc1 : mapR view c1 = iis l1 := by exact vw) : Promise Try.prog tb 39 [.lit n0 c0, .lit n1 c1] (.bool r) := by
  subst hn0
  subst hn1
  refine Promise.weak (.cons (weak_lit hc0) <| .cons (weak_lit hc1) <| .nil) ?_
  have E := @reF _ (fun r : (Bool) => .bool r) r
  refine promise_body tb_ok rfl lv39 dr39 Try.func39 ok39 rfl ?_
  unfold laws_eqIntSS.f at H
  refine brN H ?_ ?_ <;> clear H <;> intro _ H
  ·exact E H
  ·refine L3 (fun a0 a1 a5 => ⟨asl [(0, .lit a0.length (iis a0)), (1, .lit a1.length (iis a1)), (5, .int IntKind.i64 a5)], hp []⟩) laws_eqIntSS.l0 H (cI [] [] []) ?_
   clear H
   intro k a0 a1 a5 L0 hk H hL0
   rw [laws_eqIntSS.l0] at H
   refine brI H ?_ ?_ <;> clear H <;> intro _ H
   ·replace H := oA H
    obtain ⟨_, H⟩ := H
    replace H := oA H
    obtain ⟨_, H⟩ := H
    replace H := oC H
    obtain ⟨_, C0, H⟩ := H
    refine aA ?_
    refine exR ?_
    refine aA ?_
    refine exR ?_
    refine Exists.intro _ (And.intro (laws_eqIntS.pr C0) ?_)
    refine brN H ?_ ?_ <;> clear H <;> intro _ H
    ·exact E H
    ·exact hL0 _ _ _ _ _ H (by omega) (cI [] [] [])
   ·exact E H
/-! laws_eqBoolS -/
noncomputable def lv40 : Nat → List Nat := atL [(0, [0, 1, 5])]
noncomputable def dr40 : Nat → Dr := atD [(6, ⟨[], line [0, 1, 2, 3, 4, 5, 6, 7, 8]⟩)]
theorem ok40 : bodyOk dr40 Try.f40 = true := by kernel_rfl
set_option maxHeartbeats 8000000 in
theorem laws_eqBoolS.pr {k : Nat} {l0 : List Bool} {l1 : List Bool} {r : (Bool)} {n0 : Nat} {n1 : Nat} (H : laws_eqBoolS.f k l0 l1 = some r) (hn0 : n0 = l0.length := by exact ln) (hn1 : n1 = l1.length := by exact ln) : Promise Try.prog tb 40 [.lit n0 (bb l0), .lit n1 (bb l1)] (.bool r) := by
  subst hn0
  subst hn1
  have E := @reF _ (fun r : (Bool) => .bool r) r
  refine promise_body tb_ok rfl lv40 dr40 Try.func40 ok40 rfl ?_
  unfold laws_eqBoolS.f at H
  refine brN H ?_ ?_ <;> clear H <;> intro _ H
  ·exact E H
  ·refine L3 (fun a0 a1 a5 => ⟨asl [(0, .lit a0.length (bb a0)), (1, .lit a1.length (bb a1)), (5, .int IntKind.i64 a5)], hp []⟩) laws_eqBoolS.l0 H (cI [] [] []) ?_
   clear H
   intro k a0 a1 a5 L0 hk H hL0
   rw [laws_eqBoolS.l0] at H
   refine brI H ?_ ?_ <;> clear H <;> intro _ H
   ·replace H := oA H
    obtain ⟨_, H⟩ := H
    replace H := oA H
    obtain ⟨_, H⟩ := H
    refine aA ?_
    refine exB ?_
    refine aA ?_
    refine exB ?_
    refine brI H ?_ ?_ <;> clear H <;> intro _ H
    ·exact E H
    ·exact hL0 _ _ _ _ _ H (by omega) (cI [] [] [])
   ·exact E H
/-! laws_eqRelation -/
noncomputable def lv13 : Nat → List Nat := atL []
noncomputable def dr13 : Nat → Dr := atD []
theorem ok13 : bodyOk dr13 Try.f13 = true := by kernel_rfl
set_option maxHeartbeats 8000000 in
theorem laws_eqRelation.pr {k : Nat} {a0_0 : Int} {a0_1 : Int} {l0_2 : List (List Int)} {l0_3 : List Bool} {a1_0 : Int} {a1_1 : Int} {l1_2 : List (List Int)} {l1_3 : List Bool} {r : (Bool)} {n0 : Nat} {c0 : List AV} {n1 : Nat} {n2 : Nat} {c2 : List AV} {n3 : Nat} (H : laws_eqRelation.f k a0_0 a0_1 l0_2 l0_3 a1_0 a1_1 l1_2 l1_3 = some r) (hn0 : n0 = l0_2.length := by exact ln) (hc0 : mapR view c0 = iis l0_2 := by exact vw) (hn1 : n1 = l0_3.length := by exact ln) (hn2 : n2 = l1_2.length := by exact ln) (hc2 : mapR view c2 = iis l1_2 := by exact vw) (hn3 : n3 = l1_3.length := by exact ln) : Promise Try.prog tb 13 [.agg [.int .i64 a0_0, .int .i64 a0_1, .lit n0 c0, .lit n1 (bb l0_3)], .agg [.int .i64 a1_0, .int .i64 a1_1, .lit n2 c2, .lit n3 (bb l1_3)]] (.bool r) := by
  subst hn0
  subst hn1
  subst hn2
  subst hn3
  refine Promise.weak (.cons (weak_agg (.cons (Weak.refl _) <| .cons (Weak.refl _) <| .cons (weak_lit hc0) <| .cons (Weak.refl _) <| .nil)) <| .cons (weak_agg (.cons (Weak.refl _) <| .cons (Weak.refl _) <| .cons (weak_lit hc2) <| .cons (Weak.refl _) <| .nil)) <| .nil) ?_
  have E := @reF _ (fun r : (Bool) => .bool r) r
  refine promise_body tb_ok rfl lv13 dr13 Try.func13 ok13 rfl ?_
  unfold laws_eqRelation.f at H
  refine aA ?_
  refine aA ?_
  refine exV ?_
  refine exV ?_
  refine brN H ?_ ?_ <;> clear H <;> intro _ H
  ·exact E H
  ·refine exV ?_
   refine exV ?_
   refine brN H ?_ ?_ <;> clear H <;> intro _ H
   ·exact E H
   ·replace H := oC H
    obtain ⟨_, C0, H⟩ := H
    refine exV ?_
    refine exV ?_
    refine Exists.intro _ (And.intro (laws_eqIntSS.pr C0) ?_)
    refine brN H ?_ ?_ <;> clear H <;> intro _ H
    ·exact E H
    ·replace H := oC H
     obtain ⟨_, C1, H⟩ := H
     refine exV ?_
     refine exV ?_
     refine Exists.intro _ (And.intro (laws_eqBoolS.pr C1) ?_)
     refine brN H ?_ ?_ <;> clear H <;> intro _ H
     ·exact E H
     ·exact E H
/-! laws_eqSequence -/
noncomputable def lv14 : Nat → List Nat := atL []
noncomputable def dr14 : Nat → Dr := atD []
theorem ok14 : bodyOk dr14 Try.f14 = true := by kernel_rfl
set_option maxHeartbeats 8000000 in
theorem laws_eqSequence.pr {k : Nat} {a0_0 : Int} {l0_1 : List (List Int)} {l0_2 : List Int} {a1_0 : Int} {l1_1 : List (List Int)} {l1_2 : List Int} {r : (Bool)} {n0 : Nat} {c0 : List AV} {n1 : Nat} {n2 : Nat} {c2 : List AV} {n3 : Nat} (H : laws_eqSequence.f k a0_0 l0_1 l0_2 a1_0 l1_1 l1_2 = some r) (hn0 : n0 = l0_1.length := by exact ln) (hc0 : mapR view c0 = iis l0_1 := by exact vw) (hn1 : n1 = l0_2.length := by exact ln) (hn2 : n2 = l1_1.length := by exact ln) (hc2 : mapR view c2 = iis l1_1 := by exact vw) (hn3 : n3 = l1_2.length := by exact ln) : Promise Try.prog tb 14 [.agg [.int .i64 a0_0, .lit n0 c0, .lit n1 (ii l0_2)], .agg [.int .i64 a1_0, .lit n2 c2, .lit n3 (ii l1_2)]] (.bool r) := by
  subst hn0
  subst hn1
  subst hn2
  subst hn3
  refine Promise.weak (.cons (weak_agg (.cons (Weak.refl _) <| .cons (weak_lit hc0) <| .cons (Weak.refl _) <| .nil)) <| .cons (weak_agg (.cons (Weak.refl _) <| .cons (weak_lit hc2) <| .cons (Weak.refl _) <| .nil)) <| .nil) ?_
  have E := @reF _ (fun r : (Bool) => .bool r) r
  refine promise_body tb_ok rfl lv14 dr14 Try.func14 ok14 rfl ?_
  unfold laws_eqSequence.f at H
  refine aA ?_
  refine aA ?_
  refine exV ?_
  refine exV ?_
  refine brN H ?_ ?_ <;> clear H <;> intro _ H
  ·exact E H
  ·replace H := oC H
   obtain ⟨_, C0, H⟩ := H
   refine exV ?_
   refine exV ?_
   refine Exists.intro _ (And.intro (laws_eqIntSS.pr C0) ?_)
   refine brN H ?_ ?_ <;> clear H <;> intro _ H
   ·exact E H
   ·replace H := oC H
    obtain ⟨_, C1, H⟩ := H
    refine exV ?_
    refine exV ?_
    refine Exists.intro _ (And.intro (laws_eqIntS.pr C1) ?_)
    refine brN H ?_ ?_ <;> clear H <;> intro _ H
    ·exact E H
    ·exact E H
/-! laws_heldIntS -/
noncomputable def lv72 : Nat → List Nat := atL [(0, [0, 1, 5])]
noncomputable def dr72 : Nat → Dr := atD []
theorem ok72 : bodyOk dr72 Try.f72 = true := by kernel_rfl
set_option maxHeartbeats 8000000 in
theorem laws_heldIntS.pr {k : Nat} {l0 : List Int} {a1 : Int} {r : (Int)} {n0 : Nat} (H : laws_heldIntS.f k l0 a1 = some r) (hn0 : n0 = l0.length := by exact ln) : Promise Try.prog tb 72 [.lit n0 (ii l0), .int .i64 a1] (.int .i64 r) := by
  subst hn0
  have E := @reF _ (fun r : (Int) => .int .i64 r) r
  refine promise_body tb_ok rfl lv72 dr72 Try.func72 ok72 rfl ?_
  unfold laws_heldIntS.f at H
  refine L3 (fun a0 a1 a5 => ⟨asl [(0, .lit a0.length (ii a0)), (1, .int IntKind.i64 a1), (5, .int IntKind.i64 a5)], hp []⟩) laws_heldIntS.l0 H (cI [] [] []) ?_
  clear H
  intro k a0 a1 a5 L0 hk H hL0
  rw [laws_heldIntS.l0] at H
  refine brI H ?_ ?_ <;> clear H <;> intro _ H
  ·replace H := oA H
   obtain ⟨_, H⟩ := H
   refine aA ?_
   refine exI ?_
   refine brN H ?_ ?_ <;> clear H <;> intro _ H
   ·exact E H
   ·exact hL0 _ _ _ _ _ H (by omega) (cI [] [] [])
  ·exact E H
/-! laws_heldIntSS -/
noncomputable def lv45 : Nat → List Nat := atL [(0, [0, 1, 5])]
noncomputable def dr45 : Nat → Dr := atD []
theorem ok45 : bodyOk dr45 Try.f45 = true := by kernel_rfl
set_option maxHeartbeats 8000000 in
theorem laws_heldIntSS.pr {k : Nat} {l0 : List (List Int)} {a1 : Int} {r : (Int)} {n0 : Nat} {c0 : List AV} (H : laws_heldIntSS.f k l0 a1 = some r) (hn0 : n0 = l0.length := by exact ln) (hc0 : mapR view c0 = iis l0 := by exact vw) : Promise Try.prog tb 45 [.lit n0 c0, .int .i64 a1] (.int .i64 r) := by
  subst hn0
  refine Promise.weak (.cons (weak_lit hc0) <| .cons (Weak.refl _) <| .nil) ?_
  have E := @reF _ (fun r : (Int) => .int .i64 r) r
  refine promise_body tb_ok rfl lv45 dr45 Try.func45 ok45 rfl ?_
  unfold laws_heldIntSS.f at H
  refine L3 (fun a0 a1 a5 => ⟨asl [(0, .lit a0.length (iis a0)), (1, .int IntKind.i64 a1), (5, .int IntKind.i64 a5)], hp []⟩) laws_heldIntSS.l0 H (cI [] [] []) ?_
  clear H
  intro k a0 a1 a5 L0 hk H hL0
  rw [laws_heldIntSS.l0] at H
  refine brI H ?_ ?_ <;> clear H <;> intro _ H
  ·replace H := oA H
   obtain ⟨_, H⟩ := H
   replace H := oC H
   obtain ⟨_, C0, H⟩ := H
   refine aA ?_
   refine exR ?_
   refine Exists.intro _ (And.intro (laws_heldIntS.pr C0) ?_)
   refine brI H ?_ ?_ <;> clear H <;> intro _ H
   ·exact E H
   ·exact hL0 _ _ _ _ _ H (by omega) (cI [] [] [])
  ·exact E H
/-! laws_heldBoolS -/
noncomputable def lv46 : Nat → List Nat := atL [(0, [0, 1, 5])]
noncomputable def dr46 : Nat → Dr := atD []
theorem ok46 : bodyOk dr46 Try.f46 = true := by kernel_rfl
set_option maxHeartbeats 8000000 in
theorem laws_heldBoolS.pr {k : Nat} {l0 : List Bool} {a1 : Int} {r : (Int)} {n0 : Nat} (H : laws_heldBoolS.f k l0 a1 = some r) (hn0 : n0 = l0.length := by exact ln) : Promise Try.prog tb 46 [.lit n0 (bb l0), .int .i64 a1] (.int .i64 r) := by
  subst hn0
  have E := @reF _ (fun r : (Int) => .int .i64 r) r
  refine promise_body tb_ok rfl lv46 dr46 Try.func46 ok46 rfl ?_
  unfold laws_heldBoolS.f at H
  refine L3 (fun a0 a1 a5 => ⟨asl [(0, .lit a0.length (bb a0)), (1, .int IntKind.i64 a1), (5, .int IntKind.i64 a5)], hp []⟩) laws_heldBoolS.l0 H (cI [] [] []) ?_
  clear H
  intro k a0 a1 a5 L0 hk H hL0
  rw [laws_heldBoolS.l0] at H
  refine brI H ?_ ?_ <;> clear H <;> intro _ H
  ·replace H := oA H
   obtain ⟨_, H⟩ := H
   refine aA ?_
   refine exB ?_
   refine aA ?_
   refine brI H ?_ ?_ <;> clear H <;> intro _ H
   ·exact E H
   ·exact hL0 _ _ _ _ _ H (by omega) (cI [] [] [])
  ·exact E H
/-! laws_heldRelation -/
noncomputable def lv17 : Nat → List Nat := atL []
noncomputable def dr17 : Nat → Dr := atD []
theorem ok17 : bodyOk dr17 Try.f17 = true := by kernel_rfl
set_option maxHeartbeats 8000000 in
theorem laws_heldRelation.pr {k : Nat} {a0_0 : Int} {a0_1 : Int} {l0_2 : List (List Int)} {l0_3 : List Bool} {a1 : Int} {r : (Int)} {n0 : Nat} {c0 : List AV} {n1 : Nat} (H : laws_heldRelation.f k a0_0 a0_1 l0_2 l0_3 a1 = some r) (hn0 : n0 = l0_2.length := by exact ln) (hc0 : mapR view c0 = iis l0_2 := by exact vw) (hn1 : n1 = l0_3.length := by exact ln) : Promise Try.prog tb 17 [.agg [.int .i64 a0_0, .int .i64 a0_1, .lit n0 c0, .lit n1 (bb l0_3)], .int .i64 a1] (.int .i64 r) := by
  subst hn0
  subst hn1
  refine Promise.weak (.cons (weak_agg (.cons (Weak.refl _) <| .cons (Weak.refl _) <| .cons (weak_lit hc0) <| .cons (Weak.refl _) <| .nil)) <| .cons (Weak.refl _) <| .nil) ?_
  have E := @reF _ (fun r : (Int) => .int .i64 r) r
  refine promise_body tb_ok rfl lv17 dr17 Try.func17 ok17 rfl ?_
  unfold laws_heldRelation.f at H
  replace H := oC H
  obtain ⟨_, C0, H⟩ := H
  refine aA ?_
  refine exV ?_
  refine Exists.intro _ (And.intro (laws_heldIntSS.pr C0) ?_)
  refine brI H ?_ ?_ <;> clear H <;> intro _ H
  ·exact E H
  ·replace H := oC H
   obtain ⟨_, C1, H⟩ := H
   refine exV ?_
   refine Exists.intro _ (And.intro (laws_heldBoolS.pr C1) ?_)
   refine brI H ?_ ?_ <;> clear H <;> intro _ H
   ·exact E H
   ·exact E H
/-! laws_FnExactTermRelation -/
noncomputable def lv3 : Nat → List Nat := atL []
noncomputable def dr3 : Nat → Dr := atD [(10, ⟨[], line [0, 1, 2, 3, 4]⟩)]
theorem ok3 : bodyOk dr3 Try.f3 = true := by kernel_rfl
set_option maxHeartbeats 8000000 in
theorem laws_FnExactTermRelation.pr {k : Nat} {a0_0 : Int} {l0_1 : List (List Int)} {l0_2 : List Int} {a1 : Int} {r : Bool} (H : laws_FnExactTermRelation.f k a0_0 l0_1 l0_2 a1 = some r) : Contract Try.prog tb 3 [.agg [.int .i64 a0_0, .lit l0_1.length (iis l0_1), .lit l0_2.length (ii l0_2)], .int .i64 a1] (.bool r) := by
  have E := @reF _ (fun r : Bool => .bool r) r
  refine law_body tb_ok rfl lv3 dr3 Try.func3 ok3 (xs := [.agg [.int .i64 a0_0, .xr 16, .xr 17], .int .i64 a1]) (ex := [(l0_1.length, (iis l0_1)), (l0_2.length, (ii l0_2))]) rfl ?_
  unfold laws_FnExactTermRelation.f at H
  replace H := oC H
  obtain ⟨_, C0, H⟩ := H
  refine aA ?_
  refine leE ?_
  refine aA ?_
  refine Exists.intro _ (And.intro (laws_szSequence.pr C0) ?_)
  refine brI H ?_ ?_ <;> clear H <;> intro _ H
  ·exact E H
  ·replace H := oC H
   obtain ⟨_, C1, H⟩ := H
   replace H := oC H
   obtain ⟨_, C2, H⟩ := H
   replace H := oC H
   obtain ⟨_, C3, H⟩ := H
   replace H := oC H
   obtain ⟨_, C4, H⟩ := H
   replace H := oA H
   obtain ⟨_, H⟩ := H
   replace H := oA H
   obtain ⟨_, H⟩ := H
   replace H := oC H
   obtain ⟨_, C5, H⟩ := H
   replace H := oA H
   obtain ⟨_, H⟩ := H
   replace H := oC H
   obtain ⟨_, C6, H⟩ := H
   replace H := oA H
   obtain ⟨_, H⟩ := H
   replace H := oA H
   obtain ⟨_, H⟩ := H
   replace H := oA H
   obtain ⟨_, H⟩ := H
   replace H := oC H
   obtain ⟨_, C7, H⟩ := H
   replace H := oC H
   obtain ⟨_, C8, H⟩ := H
   replace H := oA H
   obtain ⟨_, H⟩ := H
   replace H := oA H
   obtain ⟨_, H⟩ := H
   replace H := oA H
   obtain ⟨_, H⟩ := H
   replace H := oA H
   obtain ⟨_, H⟩ := H
   replace H := oA H
   obtain ⟨_, H⟩ := H
   replace H := oA H
   obtain ⟨_, H⟩ := H
   refine leE ?_
   refine aA ?_
   refine Exists.intro _ (And.intro (laws_toSequence.pr C1) ?_)
   refine Exists.intro _ (And.intro (spec_TermRelation.pr C2) ?_)
   refine exV ?_
   refine exV ?_
   refine aA ?_
   refine leE ?_
   refine aA ?_
   refine Exists.intro _ (And.intro (laws_toSequence.pr C1) ?_)
   refine aA ?_
   refine leE ?_
   refine aA ?_
   refine Exists.intro _ (And.intro (impl_TermRelation.pr C3) ?_)
   refine exV ?_
   refine exV ?_
   refine aA ?_
   refine leE ?_
   refine aA ?_
   refine leE ?_
   refine aA ?_
   refine Exists.intro _ (And.intro (laws_eqRelation.pr C4) ?_)
   refine brF ?_
   refine brF ?_
   refine brF ?_
   refine brF ?_
   refine brF ?_
   refine leE ?_
   refine aA ?_
   refine leE ?_
   refine aA ?_
   refine Exists.intro _ (And.intro (laws_toSequence.pr C1) ?_)
   refine Exists.intro _ (And.intro (laws_eqSequence.pr C5) ?_)
   refine brF ?_
   refine leE ?_
   refine aA ?_
   have LC6 := laws_markSequence.len C6
   refine exW (laws_markSequence.pr C6) ?_
   refine brF ?_
   refine leE ?_
   refine aA ?_
   refine brF ?_
   refine leE ?_
   refine aA ?_
   refine brF ?_
   refine Exists.intro _ (And.intro (laws_eqRelation.pr C4) ?_)
   refine brF ?_
   refine brF ?_
   refine brF ?_
   refine brF ?_
   refine brF ?_
   refine brF ?_
   refine brF ?_
   refine leE ?_
   refine aA ?_
   have LC7 := laws_markRelation.len C7
   refine exW (laws_markRelation.pr C7) ?_
   refine leE ?_
   refine aA ?_
   refine Exists.intro _ (And.intro (laws_heldRelation.pr C8) ?_)
   refine brF ?_
   refine brF ?_
   refine leE ?_
   refine aA ?_
   refine Exists.intro _ (And.intro (laws_toSequence.pr C1) ?_)
   refine Exists.intro _ (And.intro (impl_TermRelation.pr C3) ?_)
   refine exV ?_
   refine exV ?_
   refine aA ?_
   refine leE ?_
   refine aA ?_
   refine leE ?_
   refine aA ?_
   refine Exists.intro _ (And.intro (laws_eqRelation.pr C4) ?_)
   refine brF ?_
   refine brF ?_
   refine brF ?_
   refine brF ?_
   refine brF ?_
   refine leE ?_
   refine aA ?_
   refine Exists.intro _ (And.intro (laws_heldRelation.pr C8) ?_)
   refine brF ?_
   refine brF ?_
   exact E H
end Go.Ev
