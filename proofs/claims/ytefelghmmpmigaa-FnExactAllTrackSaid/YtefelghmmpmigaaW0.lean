/- Walks of functions with the plain evaluator: what each computes -/
import Derived.Test.YtefelghmmpmigaaEh3
import Derived.Test.YtefelghmmpmigaaEx
namespace Go.Ev
open Go.Proofs Go Go.Proofs.YtefelghmmpmigaaW.PrintWords Go.Proofs.Ytefelghmmpmigaa.Q
set_option maxRecDepth 100000
set_option linter.unusedVariables false
attribute [local irreducible] br Loop
/-! laws_eqIntS -/
noncomputable def lv41 : Nat → List Nat := atL [(0, [0, 1, 5])]
noncomputable def dr41 : Nat → Dr := atD [(6, ⟨[], line [0, 1, 2, 3, 4, 5, 6, 7, 8]⟩)]
theorem ok41 : bodyOk dr41 Try.f41 = true := by kernel_rfl
set_option maxHeartbeats 8000000 in
theorem laws_eqIntS.pr {k : Nat} {l0 : List Int} {l1 : List Int} {r : (Bool)} {n0 : Nat} {n1 : Nat} (H : laws_eqIntS.f k l0 l1 = some r) (hn0 : n0 = l0.length := by exact ln) (hn1 : n1 = l1.length := by exact ln) : Promise Try.prog tb 41 [.lit n0 (ii l0), .lit n1 (ii l1)] (.bool r) := by
  subst hn0
  subst hn1
  have E := @reF _ (fun r : (Bool) => .bool r) r
  refine promise_body tb_ok rfl lv41 dr41 Try.func41 ok41 rfl ?_
  unfold laws_eqIntS.f at H
  refine brN H ?_ ?_ <;> clear H <;> intro _ H
  ·exact E H
  ·refine L3 (fun a0 a1 a5 => ⟨asl [(0, .lit a0.length (ii a0)), (1, .lit a1.length (ii a1)), (5, .int IntKind.i64 a5)], hp []⟩) laws_eqIntS.l0 H (cI [] [] []) ?_
   clear H
   intro k a0 a1 a5 L0 hk H hL0
   rw [laws_eqIntS.l0] at H
   refine brI H ?_ ?_ <;> clear H <;> intro _ H
   ·replace H := oA H
    obtain ⟨_, H⟩ := H
    replace H := oA H
    obtain ⟨_, H⟩ := H
    refine aA ?_
    refine exI ?_
    refine aA ?_
    refine exI ?_
    refine brN H ?_ ?_ <;> clear H <;> intro _ H
    ·exact E H
    ·exact hL0 _ _ _ _ _ H (by omega) (cI [] [] [])
   ·exact E H
/-! laws_eqIntSS -/
noncomputable def lv39 : Nat → List Nat := atL [(0, [0, 1, 5])]
noncomputable def dr39 : Nat → Dr := atD [(6, ⟨[], line [0, 1, 2, 3, 4, 5, 6, 7, 8, 9]⟩)]
theorem ok39 : bodyOk dr39 Try.f39 = true := by kernel_rfl
set_option maxHeartbeats 8000000 in
theorem laws_eqIntSS.pr {k : Nat} {l0 : List (List Int)} {l1 : List (List Int)} {r : (Bool)} {n0 : Nat} {c0 : List AV} {n1 : Nat} {c1 : List AV} (H : laws_eqIntSS.f k l0 l1 = some r) (hn0 : n0 = l0.length := by exact ln) (hc0 : mapR view c0 = iis l0 := by exact vw) (hn1 : n1 = l1.length := by exact ln) (hc1 : mapR view c1 = iis l1 := by exact vw) : Promise Try.prog tb 39 [.lit n0 c0, .lit n1 c1] (.bool r) := by
  subst hn0
  subst hn1
  refine Promise.weak (.cons (weak_lit hc0) <| .cons (weak_lit hc1) <| .nil) ?_
  have E := @reF _ (fun r : (Bool) => .bool r) r
  refine promise_body tb_ok rfl lv39 dr39 Try.func39 ok39 rfl ?_
  unfold laws_eqIntSS.f at H
  refine brN H ?_ ?_ <;> clear H <;> intro _ H
  ·exact E H
  ·refine L3 (fun a0 a1 a5 => ⟨asl [(0, .lit a0.length (iis a0)), (1, .lit a1.length (iis a1)), (5, .int IntKind.i64 a5)], hp []⟩) laws_eqIntSS.l0 H (cI [] [] []) ?_
   clear H
   intro k a0 a1 a5 L0 hk H hL0
   rw [laws_eqIntSS.l0] at H
   refine brI H ?_ ?_ <;> clear H <;> intro _ H
   ·replace H := oA H
    obtain ⟨_, H⟩ := H
    replace H := oA H
    obtain ⟨_, H⟩ := H
    replace H := oC H
    obtain ⟨_, C0, H⟩ := H
    refine aA ?_
    refine exR ?_
    refine aA ?_
    refine exR ?_
    refine Exists.intro _ (And.intro (laws_eqIntS.pr C0) ?_)
    refine brN H ?_ ?_ <;> clear H <;> intro _ H
    ·exact E H
    ·exact hL0 _ _ _ _ _ H (by omega) (cI [] [] [])
   ·exact E H
/-! laws_eqBoolS -/
noncomputable def lv40 : Nat → List Nat := atL [(0, [0, 1, 5])]
noncomputable def dr40 : Nat → Dr := atD [(6, ⟨[], line [0, 1, 2, 3, 4, 5, 6, 7, 8]⟩)]
theorem ok40 : bodyOk dr40 Try.f40 = true := by kernel_rfl
set_option maxHeartbeats 8000000 in
theorem laws_eqBoolS.pr {k : Nat} {l0 : List Bool} {l1 : List Bool} {r : (Bool)} {n0 : Nat} {n1 : Nat} (H : laws_eqBoolS.f k l0 l1 = some r) (hn0 : n0 = l0.length := by exact ln) (hn1 : n1 = l1.length := by exact ln) : Promise Try.prog tb 40 [.lit n0 (bb l0), .lit n1 (bb l1)] (.bool r) := by
  subst hn0
  subst hn1
  have E := @reF _ (fun r : (Bool) => .bool r) r
  refine promise_body tb_ok rfl lv40 dr40 Try.func40 ok40 rfl ?_
  unfold laws_eqBoolS.f at H
  refine brN H ?_ ?_ <;> clear H <;> intro _ H
  ·exact E H
  ·refine L3 (fun a0 a1 a5 => ⟨asl [(0, .lit a0.length (bb a0)), (1, .lit a1.length (bb a1)), (5, .int IntKind.i64 a5)], hp []⟩) laws_eqBoolS.l0 H (cI [] [] []) ?_
   clear H
   intro k a0 a1 a5 L0 hk H hL0
   rw [laws_eqBoolS.l0] at H
   refine brI H ?_ ?_ <;> clear H <;> intro _ H
   ·replace H := oA H
    obtain ⟨_, H⟩ := H
    replace H := oA H
    obtain ⟨_, H⟩ := H
    refine aA ?_
    refine exB ?_
    refine aA ?_
    refine exB ?_
    refine brI H ?_ ?_ <;> clear H <;> intro _ H
    ·exact E H
    ·exact hL0 _ _ _ _ _ H (by omega) (cI [] [] [])
   ·exact E H
/-! laws_eqRelation -/
noncomputable def lv13 : Nat → List Nat := atL []
noncomputable def dr13 : Nat → Dr := atD []
theorem ok13 : bodyOk dr13 Try.f13 = true := by kernel_rfl
set_option maxHeartbeats 8000000 in
theorem laws_eqRelation.pr {k : Nat} {a0_0 : Int} {a0_1 : Int} {l0_2 : List (List Int)} {l0_3 : List Bool} {a1_0 : Int} {a1_1 : Int} {l1_2 : List (List Int)} {l1_3 : List Bool} {r : (Bool)} {n0 : Nat} {c0 : List AV} {n1 : Nat} {n2 : Nat} {c2 : List AV} {n3 : Nat} (H : laws_eqRelation.f k a0_0 a0_1 l0_2 l0_3 a1_0 a1_1 l1_2 l1_3 = some r) (hn0 : n0 = l0_2.length := by exact ln) (hc0 : mapR view c0 = iis l0_2 := by exact vw) (hn1 : n1 = l0_3.length := by exact ln) (hn2 : n2 = l1_2.length := by exact ln) (hc2 : mapR view c2 = iis l1_2 := by exact vw) (hn3 : n3 = l1_3.length := by exact ln) : Promise Try.prog tb 13 [.agg [.int .i64 a0_0, .int .i64 a0_1, .lit n0 c0, .lit n1 (bb l0_3)], .agg [.int .i64 a1_0, .int .i64 a1_1, .lit n2 c2, .lit n3 (bb l1_3)]] (.bool r) := by
  subst hn0
  subst hn1
  subst hn2
  subst hn3
  refine Promise.weak (.cons (weak_agg (.cons (Weak.refl _) <| .cons (Weak.refl _) <| .cons (weak_lit hc0) <| .cons (Weak.refl _) <| .nil)) <| .cons (weak_agg (.cons (Weak.refl _) <| .cons (Weak.refl _) <| .cons (weak_lit hc2) <| .cons (Weak.refl _) <| .nil)) <| .nil) ?_
  have E := @reF _ (fun r : (Bool) => .bool r) r
  refine promise_body tb_ok rfl lv13 dr13 Try.func13 ok13 rfl ?_
  unfold laws_eqRelation.f at H
  refine aA ?_
  refine aA ?_
  refine exV ?_
  refine exV ?_
  refine brN H ?_ ?_ <;> clear H <;> intro _ H
  ·exact E H
  ·refine exV ?_
   refine exV ?_
   refine brN H ?_ ?_ <;> clear H <;> intro _ H
   ·exact E H
   ·replace H := oC H
    obtain ⟨_, C0, H⟩ := H
    refine exV ?_
    refine exV ?_
    refine Exists.intro _ (And.intro (laws_eqIntSS.pr C0) ?_)
    refine brN H ?_ ?_ <;> clear H <;> intro _ H
    ·exact E H
    ·replace H := oC H
     obtain ⟨_, C1, H⟩ := H
     refine exV ?_
     refine exV ?_
     refine Exists.intro _ (And.intro (laws_eqBoolS.pr C1) ?_)
     refine brN H ?_ ?_ <;> clear H <;> intro _ H
     ·exact E H
     ·exact E H
/-! laws_heldIntS -/
noncomputable def lv72 : Nat → List Nat := atL [(0, [0, 1, 5])]
noncomputable def dr72 : Nat → Dr := atD []
theorem ok72 : bodyOk dr72 Try.f72 = true := by kernel_rfl
set_option maxHeartbeats 8000000 in
theorem laws_heldIntS.pr {k : Nat} {l0 : List Int} {a1 : Int} {r : (Int)} {n0 : Nat} (H : laws_heldIntS.f k l0 a1 = some r) (hn0 : n0 = l0.length := by exact ln) : Promise Try.prog tb 72 [.lit n0 (ii l0), .int .i64 a1] (.int .i64 r) := by
  subst hn0
  have E := @reF _ (fun r : (Int) => .int .i64 r) r
  refine promise_body tb_ok rfl lv72 dr72 Try.func72 ok72 rfl ?_
  unfold laws_heldIntS.f at H
  refine L3 (fun a0 a1 a5 => ⟨asl [(0, .lit a0.length (ii a0)), (1, .int IntKind.i64 a1), (5, .int IntKind.i64 a5)], hp []⟩) laws_heldIntS.l0 H (cI [] [] []) ?_
  clear H
  intro k a0 a1 a5 L0 hk H hL0
  rw [laws_heldIntS.l0] at H
  refine brI H ?_ ?_ <;> clear H <;> intro _ H
  ·replace H := oA H
   obtain ⟨_, H⟩ := H
   refine aA ?_
   refine exI ?_
   refine brN H ?_ ?_ <;> clear H <;> intro _ H
   ·exact E H
   ·exact hL0 _ _ _ _ _ H (by omega) (cI [] [] [])
  ·exact E H
/-! laws_heldIntSS -/
noncomputable def lv45 : Nat → List Nat := atL [(0, [0, 1, 5])]
noncomputable def dr45 : Nat → Dr := atD []
theorem ok45 : bodyOk dr45 Try.f45 = true := by kernel_rfl
set_option maxHeartbeats 8000000 in
theorem laws_heldIntSS.pr {k : Nat} {l0 : List (List Int)} {a1 : Int} {r : (Int)} {n0 : Nat} {c0 : List AV} (H : laws_heldIntSS.f k l0 a1 = some r) (hn0 : n0 = l0.length := by exact ln) (hc0 : mapR view c0 = iis l0 := by exact vw) : Promise Try.prog tb 45 [.lit n0 c0, .int .i64 a1] (.int .i64 r) := by
  subst hn0
  refine Promise.weak (.cons (weak_lit hc0) <| .cons (Weak.refl _) <| .nil) ?_
  have E := @reF _ (fun r : (Int) => .int .i64 r) r
  refine promise_body tb_ok rfl lv45 dr45 Try.func45 ok45 rfl ?_
  unfold laws_heldIntSS.f at H
  refine L3 (fun a0 a1 a5 => ⟨asl [(0, .lit a0.length (iis a0)), (1, .int IntKind.i64 a1), (5, .int IntKind.i64 a5)], hp []⟩) laws_heldIntSS.l0 H (cI [] [] []) ?_
  clear H
  intro k a0 a1 a5 L0 hk H hL0
  rw [laws_heldIntSS.l0] at H
  refine brI H ?_ ?_ <;> clear H <;> intro _ H
  ·replace H := oA H
   obtain ⟨_, H⟩ := H
   replace H := oC H
   obtain ⟨_, C0, H⟩ := H
   refine aA ?_
   refine exR ?_
   refine Exists.intro _ (And.intro (laws_heldIntS.pr C0) ?_)
   refine brI H ?_ ?_ <;> clear H <;> intro _ H
   ·exact E H
   ·exact hL0 _ _ _ _ _ H (by omega) (cI [] [] [])
  ·exact E H
/-! laws_heldBoolS -/
noncomputable def lv46 : Nat → List Nat := atL [(0, [0, 1, 5])]
noncomputable def dr46 : Nat → Dr := atD []
theorem ok46 : bodyOk dr46 Try.f46 = true := by kernel_rfl
set_option maxHeartbeats 8000000 in
theorem laws_heldBoolS.pr {k : Nat} {l0 : List Bool} {a1 : Int} {r : (Int)} {n0 : Nat} (H : laws_heldBoolS.f k l0 a1 = some r) (hn0 : n0 = l0.length := by exact ln) : Promise Try.prog tb 46 [.lit n0 (bb l0), .int .i64 a1] (.int .i64 r) := by
  subst hn0
  have E := @reF _ (fun r : (Int) => .int .i64 r) r
  refine promise_body tb_ok rfl lv46 dr46 Try.func46 ok46 rfl ?_
  unfold laws_heldBoolS.f at H
  refine L3 (fun a0 a1 a5 => ⟨asl [(0, .lit a0.length (bb a0)), (1, .int IntKind.i64 a1), (5, .int IntKind.i64 a5)], hp []⟩) laws_heldBoolS.l0 H (cI [] [] []) ?_
  clear H
  intro k a0 a1 a5 L0 hk H hL0
  rw [laws_heldBoolS.l0] at H
  refine brI H ?_ ?_ <;> clear H <;> intro _ H
  ·replace H := oA H
   obtain ⟨_, H⟩ := H
   refine aA ?_
   refine exB ?_
   refine aA ?_
   refine brI H ?_ ?_ <;> clear H <;> intro _ H
   ·exact E H
   ·exact hL0 _ _ _ _ _ H (by omega) (cI [] [] [])
  ·exact E H
/-! laws_heldRelation -/
noncomputable def lv17 : Nat → List Nat := atL []
noncomputable def dr17 : Nat → Dr := atD []
theorem ok17 : bodyOk dr17 Try.f17 = true := by kernel_rfl
set_option maxHeartbeats 8000000 in
theorem laws_heldRelation.pr {k : Nat} {a0_0 : Int} {a0_1 : Int} {l0_2 : List (List Int)} {l0_3 : List Bool} {a1 : Int} {r : (Int)} {n0 : Nat} {c0 : List AV} {n1 : Nat} (H : laws_heldRelation.f k a0_0 a0_1 l0_2 l0_3 a1 = some r) (hn0 : n0 = l0_2.length := by exact ln) (hc0 : mapR view c0 = iis l0_2 := by exact vw) (hn1 : n1 = l0_3.length := by exact ln) : Promise Try.prog tb 17 [.agg [.int .i64 a0_0, .int .i64 a0_1, .lit n0 c0, .lit n1 (bb l0_3)], .int .i64 a1] (.int .i64 r) := by
  subst hn0
  subst hn1
  refine Promise.weak (.cons (weak_agg (.cons (Weak.refl _) <| .cons (Weak.refl _) <| .cons (weak_lit hc0) <| .cons (Weak.refl _) <| .nil)) <| .cons (Weak.refl _) <| .nil) ?_
  have E := @reF _ (fun r : (Int) => .int .i64 r) r
  refine promise_body tb_ok rfl lv17 dr17 Try.func17 ok17 rfl ?_
  unfold laws_heldRelation.f at H
  replace H := oC H
  obtain ⟨_, C0, H⟩ := H
  refine aA ?_
  refine exV ?_
  refine Exists.intro _ (And.intro (laws_heldIntSS.pr C0) ?_)
  refine brI H ?_ ?_ <;> clear H <;> intro _ H
  ·exact E H
  ·replace H := oC H
   obtain ⟨_, C1, H⟩ := H
   refine exV ?_
   refine Exists.intro _ (And.intro (laws_heldBoolS.pr C1) ?_)
   refine brI H ?_ ?_ <;> clear H <;> intro _ H
   ·exact E H
   ·exact E H
/-! laws_szIntS -/
noncomputable def lv31 : Nat → List Nat := atL []
noncomputable def dr31 : Nat → Dr := atD []
theorem ok31 : bodyOk dr31 Try.f31 = true := by kernel_rfl
set_option maxHeartbeats 8000000 in
theorem laws_szIntS.pr {l0 : List Int} {a1 : Int} {r : (Int)} {n0 : Nat} (H : laws_szIntS.f l0 a1 = some r) (hn0 : n0 = l0.length := by exact ln) : Promise Try.prog tb 31 [.lit n0 (ii l0), .int .i64 a1] (.int .i64 r) := by
  subst hn0
  have E := @reF _ (fun r : (Int) => .int .i64 r) r
  refine promise_body tb_ok rfl lv31 dr31 Try.func31 ok31 rfl ?_
  unfold laws_szIntS.f at H
  refine brI H ?_ ?_ <;> clear H <;> intro _ H
  ·exact E H
  ·exact E H
/-! laws_szIntSS -/
noncomputable def lv30 : Nat → List Nat := atL [(0, [0, 1, 5])]
noncomputable def dr30 : Nat → Dr := atD []
theorem ok30 : bodyOk dr30 Try.f30 = true := by kernel_rfl
set_option maxHeartbeats 8000000 in
theorem laws_szIntSS.pr {k : Nat} {l0 : List (List Int)} {a1 : Int} {r : (Int)} {n0 : Nat} {c0 : List AV} (H : laws_szIntSS.f k l0 a1 = some r) (hn0 : n0 = l0.length := by exact ln) (hc0 : mapR view c0 = iis l0 := by exact vw) : Promise Try.prog tb 30 [.lit n0 c0, .int .i64 a1] (.int .i64 r) := by
  subst hn0
  refine Promise.weak (.cons (weak_lit hc0) <| .cons (Weak.refl _) <| .nil) ?_
  have E := @reF _ (fun r : (Int) => .int .i64 r) r
  refine promise_body tb_ok rfl lv30 dr30 Try.func30 ok30 rfl ?_
  unfold laws_szIntSS.f at H
  refine brI H ?_ ?_ <;> clear H <;> intro _ H
  ·exact E H
  ·refine L3 (fun a0 a1 a5 => ⟨asl [(0, .lit a0.length (iis a0)), (1, .int IntKind.i64 a1), (5, .int IntKind.i64 a5)], hp []⟩) laws_szIntSS.l0 H (cI [] [] []) ?_
   clear H
   intro k a0 a1 a5 L0 hk H hL0
   rw [laws_szIntSS.l0] at H
   refine brI H ?_ ?_ <;> clear H <;> intro _ H
   ·replace H := oA H
    obtain ⟨_, H⟩ := H
    replace H := oC H
    obtain ⟨_, C0, H⟩ := H
    refine aA ?_
    refine exR ?_
    refine Exists.intro _ (And.intro (laws_szIntS.pr C0) ?_)
    refine brI H ?_ ?_ <;> clear H <;> intro _ H
    ·exact E H
    ·exact hL0 _ _ _ _ _ H (by omega) (cI [] [] [])
   ·exact E H
/-! laws_szBoolS -/
noncomputable def lv47 : Nat → List Nat := atL []
noncomputable def dr47 : Nat → Dr := atD []
theorem ok47 : bodyOk dr47 Try.f47 = true := by kernel_rfl
set_option maxHeartbeats 8000000 in
theorem laws_szBoolS.pr {l0 : List Bool} {a1 : Int} {r : (Int)} {n0 : Nat} (H : laws_szBoolS.f l0 a1 = some r) (hn0 : n0 = l0.length := by exact ln) : Promise Try.prog tb 47 [.lit n0 (bb l0), .int .i64 a1] (.int .i64 r) := by
  subst hn0
  have E := @reF _ (fun r : (Int) => .int .i64 r) r
  refine promise_body tb_ok rfl lv47 dr47 Try.func47 ok47 rfl ?_
  unfold laws_szBoolS.f at H
  refine brI H ?_ ?_ <;> clear H <;> intro _ H
  ·exact E H
  ·exact E H
/-! laws_szRelation -/
noncomputable def lv18 : Nat → List Nat := atL []
noncomputable def dr18 : Nat → Dr := atD []
theorem ok18 : bodyOk dr18 Try.f18 = true := by kernel_rfl
set_option maxHeartbeats 8000000 in
theorem laws_szRelation.pr {k : Nat} {a0_0 : Int} {a0_1 : Int} {l0_2 : List (List Int)} {l0_3 : List Bool} {a1 : Int} {r : (Int)} {n0 : Nat} {c0 : List AV} {n1 : Nat} (H : laws_szRelation.f k a0_0 a0_1 l0_2 l0_3 a1 = some r) (hn0 : n0 = l0_2.length := by exact ln) (hc0 : mapR view c0 = iis l0_2 := by exact vw) (hn1 : n1 = l0_3.length := by exact ln) : Promise Try.prog tb 18 [.agg [.int .i64 a0_0, .int .i64 a0_1, .lit n0 c0, .lit n1 (bb l0_3)], .int .i64 a1] (.int .i64 r) := by
  subst hn0
  subst hn1
  refine Promise.weak (.cons (weak_agg (.cons (Weak.refl _) <| .cons (Weak.refl _) <| .cons (weak_lit hc0) <| .cons (Weak.refl _) <| .nil)) <| .cons (Weak.refl _) <| .nil) ?_
  have E := @reF _ (fun r : (Int) => .int .i64 r) r
  refine promise_body tb_ok rfl lv18 dr18 Try.func18 ok18 rfl ?_
  unfold laws_szRelation.f at H
  replace H := oC H
  obtain ⟨_, C0, H⟩ := H
  refine aA ?_
  refine exV ?_
  refine Exists.intro _ (And.intro (laws_szIntSS.pr C0) ?_)
  refine brI H ?_ ?_ <;> clear H <;> intro _ H
  ·exact E H
  ·replace H := oC H
   obtain ⟨_, C1, H⟩ := H
   refine exV ?_
   refine Exists.intro _ (And.intro (laws_szBoolS.pr C1) ?_)
   refine brI H ?_ ?_ <;> clear H <;> intro _ H
   ·exact E H
   ·exact E H
/-! laws_toIntS -/
noncomputable def lv35 : Nat → List Nat := atL [(0, [0, 3, 4])]
noncomputable def dr35 : Nat → Dr := atD []
theorem ok35 : bodyOk dr35 Try.f35 = true := by kernel_rfl
set_option maxHeartbeats 8000000 in
theorem laws_toIntS.pr {k : Nat} {l0 : List Int} {r : (List Int)} {n0 : Nat} (H : laws_toIntS.f k l0 = some r) (hn0 : n0 = l0.length := by exact ln) : Promise Try.prog tb 35 [.lit n0 (ii l0)] (.own 3 r.length (ii r)) := by
  subst hn0
  have E := @reF _ (fun r : (List Int) => .own 3 r.length (ii r)) r
  refine promise_body tb_ok rfl lv35 dr35 Try.func35 ok35 rfl ?_
  unfold laws_toIntS.f at H
  replace H := oA H
  obtain ⟨_, H⟩ := H
  replace H := oA H
  obtain ⟨_, H⟩ := H
  refine aA ?_
  refine aA ?_
  refine mkI ?_
  refine L3 (fun a0 a3 a4 => ⟨asl [(0, .lit a0.length (ii a0)), (3, R 0 a3.length), (4, .int IntKind.i64 a4)], hp [.row 3 0 false (ii a3)]⟩) laws_toIntS.l0 H (cI [.old 212] [.old 212] [.old 212]) ?_
  clear H
  intro k a0 a3 a4 L0 hk H hL0
  rw [laws_toIntS.l0] at H
  refine brI H ?_ ?_ <;> clear H <;> intro _ H
  ·replace H := oA H
   obtain ⟨_, H⟩ := H
   replace H := oA H
   obtain ⟨_, H⟩ := H
   refine aA ?_
   refine exI ?_
   refine aA ?_
   refine aA ?_
   refine seI ?_
   exact hL0 _ _ _ _ _ H (by omega) (cI [.old 0] [.old 0] [.old 0])
  ·exact E H
/-! laws_toIntSS -/
noncomputable def lv34 : Nat → List Nat := atL [(0, [0, 3, 4])]
noncomputable def dr34 : Nat → Dr := atD []
theorem ok34 : bodyOk dr34 Try.f34 = true := by kernel_rfl
set_option maxHeartbeats 8000000 in
theorem laws_toIntSS.pr {k : Nat} {l0 : List (List Int)} {r : ((List (List Int)))} {n0 : Nat} {c0 : List AV} (H : laws_toIntSS.f k l0 = some r) (hn0 : n0 = l0.length := by exact ln) (hc0 : mapR view c0 = iis l0 := by exact vw) : Promise Try.prog tb 34 [.lit n0 c0] (.own 23 r.length (ois 3 r)) := by
  subst hn0
  refine Promise.weak (.cons (weak_lit hc0) <| .nil) ?_
  have E := @reF _ (fun r : ((List (List Int))) => .own 23 r.length (ois 3 r)) r
  refine promise_body tb_ok rfl lv34 dr34 Try.func34 ok34 rfl ?_
  unfold laws_toIntSS.f at H
  replace H := oA H
  obtain ⟨_, H⟩ := H
  replace H := oA H
  obtain ⟨_, H⟩ := H
  refine aA ?_
  refine aA ?_
  refine mkO ?_
  refine L3 (fun a0 a3 a4 => ⟨asl [(0, .lit a0.length (iis a0)), (3, R 0 a3.length), (4, .int IntKind.i64 a4)], hp [.row 23 0 false (ois 3 a3)]⟩) laws_toIntSS.l0 H (cI [.old 212] [.old 212] [.old 212]) ?_
  clear H
  intro k a0 a3 a4 L0 hk H hL0
  rw [laws_toIntSS.l0] at H
  refine brI H ?_ ?_ <;> clear H <;> intro _ H
  ·replace H := oA H
   obtain ⟨_, H⟩ := H
   replace H := oC H
   obtain ⟨_, C0, H⟩ := H
   replace H := oA H
   obtain ⟨_, H⟩ := H
   refine aA ?_
   refine exR ?_
   refine Exists.intro _ (And.intro (laws_toIntS.pr C0) ?_)
   refine aA ?_
   refine aA ?_
   refine seO ?_
   exact hL0 _ _ _ _ _ H (by omega) (cI [.old 0] [.old 0] [.old 0])
  ·exact E H
/-! laws_toBoolS -/
noncomputable def lv49 : Nat → List Nat := atL [(0, [0, 3, 4])]
noncomputable def dr49 : Nat → Dr := atD []
theorem ok49 : bodyOk dr49 Try.f49 = true := by kernel_rfl
set_option maxHeartbeats 8000000 in
theorem laws_toBoolS.pr {k : Nat} {l0 : List Bool} {r : (List Bool)} {n0 : Nat} (H : laws_toBoolS.f k l0 = some r) (hn0 : n0 = l0.length := by exact ln) : Promise Try.prog tb 49 [.lit n0 (bb l0)] (.own 4 r.length (bb r)) := by
  subst hn0
  have E := @reF _ (fun r : (List Bool) => .own 4 r.length (bb r)) r
  refine promise_body tb_ok rfl lv49 dr49 Try.func49 ok49 rfl ?_
  unfold laws_toBoolS.f at H
  replace H := oA H
  obtain ⟨_, H⟩ := H
  replace H := oA H
  obtain ⟨_, H⟩ := H
  refine aA ?_
  refine aA ?_
  refine mkB ?_
  refine L3 (fun a0 a3 a4 => ⟨asl [(0, .lit a0.length (bb a0)), (3, R 0 a3.length), (4, .int IntKind.i64 a4)], hp [.row 4 0 false (bb a3)]⟩) laws_toBoolS.l0 H (cI [.old 212] [.old 212] [.old 212]) ?_
  clear H
  intro k a0 a3 a4 L0 hk H hL0
  rw [laws_toBoolS.l0] at H
  refine brI H ?_ ?_ <;> clear H <;> intro _ H
  ·replace H := oA H
   obtain ⟨_, H⟩ := H
   replace H := oA H
   obtain ⟨_, H⟩ := H
   refine aA ?_
   refine exB ?_
   refine aA ?_
   refine aA ?_
   refine seB ?_
   exact hL0 _ _ _ _ _ H (by omega) (cI [.old 0] [.old 0] [.old 0])
  ·exact E H
/-! laws_toRelation -/
noncomputable def lv20 : Nat → List Nat := atL []
noncomputable def dr20 : Nat → Dr := atD []
theorem ok20 : bodyOk dr20 Try.f20 = true := by kernel_rfl
set_option maxHeartbeats 8000000 in
theorem laws_toRelation.pr {k : Nat} {a0_0 : Int} {a0_1 : Int} {l0_2 : List (List Int)} {l0_3 : List Bool} {r : (Int × Int × (List (List Int)) × List Bool)} {n0 : Nat} {c0 : List AV} {n1 : Nat} (H : laws_toRelation.f k a0_0 a0_1 l0_2 l0_3 = some r) (hn0 : n0 = l0_2.length := by exact ln) (hc0 : mapR view c0 = iis l0_2 := by exact vw) (hn1 : n1 = l0_3.length := by exact ln) : Promise Try.prog tb 20 [.agg [.int .i64 a0_0, .int .i64 a0_1, .lit n0 c0, .lit n1 (bb l0_3)]] (.agg [.int .i64 r.1, .int .i64 r.2.1, .own 23 r.2.2.1.length (ois 3 r.2.2.1), .own 4 r.2.2.2.length (bb r.2.2.2)]) := by
  subst hn0
  subst hn1
  refine Promise.weak (.cons (weak_agg (.cons (Weak.refl _) <| .cons (Weak.refl _) <| .cons (weak_lit hc0) <| .cons (Weak.refl _) <| .nil)) <| .nil) ?_
  have E := @reF _ (fun r : (Int × Int × (List (List Int)) × List Bool) => .agg [.int .i64 r.1, .int .i64 r.2.1, .own 23 r.2.2.1.length (ois 3 r.2.2.1), .own 4 r.2.2.2.length (bb r.2.2.2)]) r
  refine promise_body tb_ok rfl lv20 dr20 Try.func20 ok20 rfl ?_
  unfold laws_toRelation.f at H
  replace H := oC H
  obtain ⟨_, C0, H⟩ := H
  replace H := oC H
  obtain ⟨_, C1, H⟩ := H
  refine aA ?_
  refine exV ?_
  refine aA ?_
  refine leE ?_
  refine exV ?_
  refine aA ?_
  refine leE ?_
  refine exV ?_
  refine Exists.intro _ (And.intro (laws_toIntSS.pr C0) ?_)
  refine aA ?_
  refine leE ?_
  refine exV ?_
  refine Exists.intro _ (And.intro (laws_toBoolS.pr C1) ?_)
  refine aA ?_
  refine leE ?_
  refine leE ?_
  refine aA ?_
  refine aA ?_
  refine leE ?_
  refine leE ?_
  refine aA ?_
  exact E H
/-! spec_l1In -/
noncomputable def lv33 : Nat → List Nat := atL []
noncomputable def dr33 : Nat → Dr := atD []
theorem ok33 : bodyOk dr33 Try.f33 = true := by kernel_rfl
set_option maxHeartbeats 8000000 in
theorem spec_l1In.pr {a0 : Int} {a1 : Int} {a2 : Int} {r : (Bool)} (H : spec_l1In.f a0 a1 a2 = some r) : Promise Try.prog tb 33 [.int .i64 a0, .int .i64 a1, .int .i64 a2] (.bool r) := by
  have E := @reF _ (fun r : (Bool) => .bool r) r
  refine promise_body tb_ok rfl lv33 dr33 Try.func33 ok33 rfl ?_
  unfold spec_l1In.f at H
  refine brI H ?_ ?_ <;> clear H <;> intro _ H
  ·refine brT ?_
   refine brT ?_
   refine brT ?_
   exact E H
  ·refine brF ?_
   refine brF ?_
   refine brF ?_
   exact E H
/-! spec_l11Power -/
noncomputable def lv76 : Nat → List Nat := atL [(0, [0, 1, 5, 6])]
noncomputable def dr76 : Nat → Dr := atD []
theorem ok76 : bodyOk dr76 Try.f76 = true := by kernel_rfl
set_option maxHeartbeats 8000000 in
theorem spec_l11Power.pr {k : Nat} {a0 : Int} {a1 : Int} {r : (Int)} (H : spec_l11Power.f k a0 a1 = some r) : Promise Try.prog tb 76 [.int .i64 a0, .int .i64 a1] (.int .i64 r) := by
  have E := @reF _ (fun r : (Int) => .int .i64 r) r
  refine promise_body tb_ok rfl lv76 dr76 Try.func76 ok76 rfl ?_
  unfold spec_l11Power.f at H
  refine L4 (fun a0 a1 a5 a6 => ⟨asl [(0, .int IntKind.i64 a0), (1, .int IntKind.i64 a1), (5, .int IntKind.i64 a5), (6, .int IntKind.i64 a6)], hp []⟩) spec_l11Power.l0 H (cI [] [] []) ?_
  clear H
  intro k a0 a1 a5 a6 L0 hk H hL0
  rw [spec_l11Power.l0] at H
  refine brI H ?_ ?_ <;> clear H <;> intro _ H
  ·exact hL0 _ _ _ _ _ _ H (by omega) (cI [] [] [])
  ·exact E H
/-! spec_l13Letters -/
noncomputable def lv55 : Nat → List Nat := atL []
noncomputable def dr55 : Nat → Dr := atD []
theorem ok55 : bodyOk dr55 Try.f55 = true := by kernel_rfl
set_option maxHeartbeats 8000000 in
theorem spec_l13Letters.pr {k : Nat} {a0 : Int} {a1 : Int} {r : (Int)} (H : spec_l13Letters.f k a0 a1 = some r) : Promise Try.prog tb 55 [.int .i64 a0, .int .i64 a1] (.int .i64 r) := by
  have E := @reF _ (fun r : (Int) => .int .i64 r) r
  refine promise_body tb_ok rfl lv55 dr55 Try.func55 ok55 rfl ?_
  unfold spec_l13Letters.f at H
  replace H := oC H
  obtain ⟨_, C0, H⟩ := H
  refine Exists.intro _ (And.intro (spec_l11Power.pr C0) ?_)
  exact E H
/-! spec_IsRelation -/
noncomputable def lv51 : Nat → List Nat := atL [(0, [1, 3]), (2, [1, 3, 4])]
noncomputable def dr51 : Nat → Dr := atD [(6, ⟨[], line [0, 1, 2, 3, 4, 5, 6, 7, 8, 9, 10, 11]⟩), (11, ⟨[], line [0, 1, 2, 3, 4, 5, 6, 7, 8, 9, 10, 11, 12, 13, 14, 15, 16, 17, 18, 19, 20, 21, 22]⟩)]
theorem ok51 : bodyOk dr51 Try.f51 = true := by kernel_rfl
set_option maxHeartbeats 8000000 in
theorem spec_IsRelation.pr {k : Nat} {a0_0 : Int} {a0_1 : Int} {l0_2 : List (List Int)} {l0_3 : List Bool} {r : (Bool)} {n0 : Nat} {c0 : List AV} {n1 : Nat} (H : spec_IsRelation.f k a0_0 a0_1 l0_2 l0_3 = some r) (hn0 : n0 = l0_2.length := by exact ln) (hc0 : mapR view c0 = iis l0_2 := by exact vw) (hn1 : n1 = l0_3.length := by exact ln) : Promise Try.prog tb 51 [.agg [.int .i64 a0_0, .int .i64 a0_1, .lit n0 c0, .lit n1 (bb l0_3)]] (.bool r) := by
  subst hn0
  subst hn1
  refine Promise.weak (.cons (weak_agg (.cons (Weak.refl _) <| .cons (Weak.refl _) <| .cons (weak_lit hc0) <| .cons (Weak.refl _) <| .nil)) <| .nil) ?_
  have E := @reF _ (fun r : (Bool) => .bool r) r
  refine promise_body tb_ok rfl lv51 dr51 Try.func51 ok51 rfl ?_
  unfold spec_IsRelation.f at H
  replace H := oC H
  obtain ⟨_, C0, H⟩ := H
  refine aA ?_
  refine exV ?_
  refine Exists.intro _ (And.intro (spec_l1In.pr C0) ?_)
  refine brN H ?_ ?_ <;> clear H <;> intro _ H
  ·rcases k with _ | k
   · cases H
   rw [spec_IsRelation.j0] at H
   replace H := oT H
   refine brT ?_
   refine brT ?_
   refine brT ?_
   refine brT ?_
   refine brT ?_
   refine brT ?_
   refine brT ?_
   refine brT ?_
   refine brT ?_
   refine brT ?_
   refine brT ?_
   refine brT ?_
   refine brT ?_
   refine brT ?_
   refine brT ?_
   refine brT ?_
   refine brT ?_
   refine brT ?_
   refine brT ?_
   exact E H
  ·replace H := oC H
   obtain ⟨_, C1, H⟩ := H
   refine brF ?_
   refine exV ?_
   refine brF ?_
   refine Exists.intro _ (And.intro (spec_l1In.pr C1) ?_)
   refine brF ?_
   refine brF ?_
   refine brN H ?_ ?_ <;> clear H <;> intro _ H
   ·rcases k with _ | k
    · cases H
    rw [spec_IsRelation.j0] at H
    replace H := oT H
    refine brT ?_
    refine brT ?_
    refine brT ?_
    refine brT ?_
    refine brT ?_
    refine brT ?_
    refine brT ?_
    refine brT ?_
    refine brT ?_
    refine brT ?_
    refine brT ?_
    refine brT ?_
    refine brT ?_
    refine brT ?_
    exact E H
   ·replace H := oC H
    obtain ⟨_, C2, H⟩ := H
    refine brF ?_
    refine exV ?_
    refine brF ?_
    refine brF ?_
    refine Exists.intro _ (And.intro (spec_l1In.pr C2) ?_)
    refine brF ?_
    refine brF ?_
    refine brN H ?_ ?_ <;> clear H <;> intro _ H
    ·rcases k with _ | k
     · cases H
     rw [spec_IsRelation.j0] at H
     replace H := oT H
     refine brT ?_
     refine brT ?_
     refine brT ?_
     refine brT ?_
     refine brT ?_
     refine brT ?_
     refine brT ?_
     refine brT ?_
     exact E H
    ·rcases k with _ | k
     · cases H
     rw [spec_IsRelation.j0] at H
     refine brF ?_
     refine exV ?_
     refine brF ?_
     refine brF ?_
     refine brF ?_
     refine exV ?_
     refine brF ?_
     refine brF ?_
     refine brF ?_
     refine brI H ?_ ?_ <;> clear H <;> intro _ H
     ·exact E H
     ·refine L5 (fun a3 a479000 a479001 a479002 a479003 => ⟨asl [(1, .ptr 0 0), (3, .int IntKind.i64 a3)], hp [.box 29 [.int IntKind.i64 a479000, .int IntKind.i64 a479001, .lit a479002.length (iis a479002), .lit a479003.length (bb a479003)]]⟩) spec_IsRelation.l0 H (cI [.old 116] [.old 116] [.old 116]) ?_
      clear H
      intro k a3 a479000 a479001 a479002 a479003 L0 hk H hL0
      rw [spec_IsRelation.l0] at H
      refine exV ?_
      refine brI H ?_ ?_ <;> clear H <;> intro _ H
      ·replace H := oA H
       obtain ⟨_, H⟩ := H
       replace H := oC H
       obtain ⟨_, C3, H⟩ := H
       refine exV ?_
       refine aA ?_
       refine exR ?_
       refine exV ?_
       refine exV ?_
       refine Exists.intro _ (And.intro (spec_l13Letters.pr C3) ?_)
       refine brN H ?_ ?_ <;> clear H <;> intro _ H
       ·exact E H
       ·refine L6 (fun b3 b4 b479000 b479001 b479002 b479003 => ⟨asl [(1, .ptr 0 0), (3, .int IntKind.i64 b3), (4, .int IntKind.i64 b4)], hp [.box 29 [.int IntKind.i64 b479000, .int IntKind.i64 b479001, .lit b479002.length (iis b479002), .lit b479003.length (bb b479003)]]⟩) spec_IsRelation.l1 H (cI [.old 0] [.old 0] [.old 0]) ?_
        clear H
        intro k b3 b4 b479000 b479001 b479002 b479003 L1 hk H hL1
        rw [spec_IsRelation.l1] at H
        replace H := oA H
        obtain ⟨_, H⟩ := H
        replace H := oA H
        obtain ⟨_, H⟩ := H
        refine exV ?_
        refine aA ?_
        refine exR ?_
        refine brI H ?_ ?_ <;> clear H <;> intro _ H
        ·replace H := oA H
         obtain ⟨_, H⟩ := H
         refine exV ?_
         refine aA ?_
         refine exR ?_
         refine aA ?_
         refine exI ?_
         refine brI H ?_ ?_ <;> clear H <;> intro _ H
         ·refine brT ?_
          refine brT ?_
          refine brT ?_
          refine brT ?_
          refine brT ?_
          refine brT ?_
          refine brT ?_
          refine brT ?_
          refine brT ?_
          refine brT ?_
          refine brT ?_
          refine brT ?_
          refine brT ?_
          exact E H
         ·refine brF ?_
          refine exV ?_
          refine brF ?_
          refine brF ?_
          refine aA ?_
          refine brF ?_
          refine exR ?_
          refine brF ?_
          refine brF ?_
          refine aA ?_
          refine brF ?_
          refine exI ?_
          refine brF ?_
          refine brF ?_
          refine exV ?_
          refine brF ?_
          refine brF ?_
          refine brF ?_
          refine brI H ?_ ?_ <;> clear H <;> intro _ H
          ·exact E H
          ·exact hL1 _ _ _ _ _ _ _ _ H (by omega) (cI [.old 0] [.old 0] [.old 0])
        ·exact hL0 _ _ _ _ _ _ _ H (by omega) (cI [.old 0] [.old 0] [.old 0])
      ·replace H := oA H
       obtain ⟨_, H⟩ := H
       replace H := oA H
       obtain ⟨_, H⟩ := H
       refine exV ?_
       refine aA ?_
       refine exR (i := 0) ?_
       refine aA ?_
       refine exI (i := 0) ?_
       exact E H
/-! spec_l15Digit -/
noncomputable def lv75 : Nat → List Nat := atL [(0, [0, 2, 3, 9])]
noncomputable def dr75 : Nat → Dr := atD []
theorem ok75 : bodyOk dr75 Try.f75 = true := by kernel_rfl
set_option maxHeartbeats 8000000 in
theorem spec_l15Digit.pr {k : Nat} {a0 : Int} {a1 : Int} {a2 : Int} {a3 : Int} {r : (Int)} (H : spec_l15Digit.f k a0 a1 a2 a3 = some r) : Promise Try.prog tb 75 [.int .i64 a0, .int .i64 a1, .int .i64 a2, .int .i64 a3] (.int .i64 r) := by
  have E := @reF _ (fun r : (Int) => .int .i64 r) r
  refine promise_body tb_ok rfl lv75 dr75 Try.func75 ok75 rfl ?_
  unfold spec_l15Digit.f at H
  refine L4 (fun a0 a2 a3 a9 => ⟨asl [(0, .int IntKind.i64 a0), (2, .int IntKind.i64 a2), (3, .int IntKind.i64 a3), (9, .int IntKind.i64 a9)], hp []⟩) spec_l15Digit.l0 H (cI [] [] []) ?_
  clear H
  intro k a0 a2 a3 a9 L0 hk H hL0
  rw [spec_l15Digit.l0] at H
  refine brI H ?_ ?_ <;> clear H <;> intro _ H
  ·replace H := oB H
   obtain ⟨_, H⟩ := H
   refine aA ?_
   exact hL0 _ _ _ _ _ _ H (by omega) (cI [] [] [])
  ·replace H := oB H
   obtain ⟨_, H⟩ := H
   refine aA ?_
   exact E H
/-! spec_l15Letter -/
noncomputable def lv52 : Nat → List Nat := atL [(0, [0, 1, 2, 3, 4, 11, 12, 13])]
noncomputable def dr52 : Nat → Dr := atD []
theorem ok52 : bodyOk dr52 Try.f52 = true := by kernel_rfl
set_option maxHeartbeats 8000000 in
theorem spec_l15Letter.pr {k : Nat} {a0 : Int} {a1 : Int} {a2 : Int} {a3 : Int} {a4 : Int} {r : (Int)} (H : spec_l15Letter.f k a0 a1 a2 a3 a4 = some r) : Promise Try.prog tb 52 [.int .i64 a0, .int .i64 a1, .int .i64 a2, .int .i64 a3, .int .i64 a4] (.int .i64 r) := by
  have E := @reF _ (fun r : (Int) => .int .i64 r) r
  refine promise_body tb_ok rfl lv52 dr52 Try.func52 ok52 rfl ?_
  unfold spec_l15Letter.f at H
  refine L8 (fun a0 a1 a2 a3 a4 a11 a12 a13 => ⟨asl [(0, .int IntKind.i64 a0), (1, .int IntKind.i64 a1), (2, .int IntKind.i64 a2), (3, .int IntKind.i64 a3), (4, .int IntKind.i64 a4), (11, .int IntKind.i64 a11), (12, .int IntKind.i64 a12), (13, .int IntKind.i64 a13)], hp []⟩) spec_l15Letter.l0 H (cI [] [] []) ?_
  clear H
  intro k a0 a1 a2 a3 a4 a11 a12 a13 L0 hk H hL0
  rw [spec_l15Letter.l0] at H
  refine brI H ?_ ?_ <;> clear H <;> intro _ H
  ·refine brI H ?_ ?_ <;> clear H <;> intro _ H
   ·exact hL0 _ _ _ _ _ _ _ _ _ _ H (by omega) (cI [] [] [])
   ·replace H := oC H
    obtain ⟨_, C0, H⟩ := H
    refine Exists.intro _ (And.intro (spec_l15Digit.pr C0) ?_)
    exact hL0 _ _ _ _ _ _ _ _ _ _ H (by omega) (cI [] [] [])
  ·exact E H
/-! spec_l4Has -/
noncomputable def lv53 : Nat → List Nat := atL [(0, [0, 1, 5])]
noncomputable def dr53 : Nat → Dr := atD []
theorem ok53 : bodyOk dr53 Try.f53 = true := by kernel_rfl
set_option maxHeartbeats 8000000 in
theorem spec_l4Has.pr {k : Nat} {l0 : List Int} {a1 : Int} {r : (Bool)} {n0 : Nat} (H : spec_l4Has.f k l0 a1 = some r) (hn0 : n0 = l0.length := by exact ln) : Promise Try.prog tb 53 [.lit n0 (ii l0), .int .i64 a1] (.bool r) := by
  subst hn0
  have E := @reF _ (fun r : (Bool) => .bool r) r
  refine promise_body tb_ok rfl lv53 dr53 Try.func53 ok53 rfl ?_
  unfold spec_l4Has.f at H
  refine L3 (fun a0 a1 a5 => ⟨asl [(0, .lit a0.length (ii a0)), (1, .int IntKind.i64 a1), (5, .int IntKind.i64 a5)], hp []⟩) spec_l4Has.l0 H (cI [] [] []) ?_
  clear H
  intro k a0 a1 a5 L0 hk H hL0
  rw [spec_l4Has.l0] at H
  refine brI H ?_ ?_ <;> clear H <;> intro _ H
  ·replace H := oA H
   obtain ⟨_, H⟩ := H
   refine aA ?_
   refine exI ?_
   refine brI H ?_ ?_ <;> clear H <;> intro _ H
   ·exact E H
   ·exact hL0 _ _ _ _ _ H (by omega) (cI [] [] [])
  ·exact E H
/-! spec_l15Set -/
noncomputable def lv54 : Nat → List Nat := atL [(0, [1, 5, 6])]
noncomputable def dr54 : Nat → Dr := atD []
theorem ok54 : bodyOk dr54 Try.f54 = true := by kernel_rfl
set_option maxHeartbeats 8000000 in
theorem spec_l15Set.pr {k : Nat} {a0 : Int} {l1 : List Int} {r : (List Int)} {n0 : Nat} (H : spec_l15Set.f k a0 l1 = some r) (hn0 : n0 = l1.length := by exact ln) : Promise Try.prog tb 54 [.int .i64 a0, .lit n0 (ii l1)] (.own 3 r.length (ii r)) := by
  subst hn0
  have E := @reF _ (fun r : (List Int) => .own 3 r.length (ii r)) r
  refine promise_body tb_ok rfl lv54 dr54 Try.func54 ok54 rfl ?_
  unfold spec_l15Set.f at H
  replace H := oA H
  obtain ⟨_, H⟩ := H
  replace H := oA H
  obtain ⟨_, H⟩ := H
  refine aA ?_
  refine aA ?_
  refine mkI ?_
  refine L3 (fun a1 a5 a6 => ⟨asl [(1, .lit a1.length (ii a1)), (5, R 0 a5.length), (6, .int IntKind.i64 a6)], hp [.row 3 0 false (ii a5)]⟩) spec_l15Set.l0 H (cI [.old 228] [.old 228] [.old 228]) ?_
  clear H
  intro k a1 a5 a6 L0 hk H hL0
  rw [spec_l15Set.l0] at H
  refine brI H ?_ ?_ <;> clear H <;> intro _ H
  ·replace H := oA H
   obtain ⟨_, H⟩ := H
   replace H := oA H
   obtain ⟨_, H⟩ := H
   replace H := oA H
   obtain ⟨_, H⟩ := H
   refine aA ?_
   refine exI ?_
   refine aA ?_
   refine aA ?_
   refine seI ?_
   exact hL0 _ _ _ _ _ H (by omega) (cI [.old 0] [.old 0] [.old 0])
  ·exact E H
/-! spec_l3Same -/
noncomputable def lv56 : Nat → List Nat := atL [(0, [0, 1, 5])]
noncomputable def dr56 : Nat → Dr := atD [(6, ⟨[], line [0, 1, 2, 3, 4, 5, 6, 7, 8]⟩)]
theorem ok56 : bodyOk dr56 Try.f56 = true := by kernel_rfl
set_option maxHeartbeats 8000000 in
theorem spec_l3Same.pr {k : Nat} {l0 : List Int} {l1 : List Int} {r : (Bool)} {n0 : Nat} {n1 : Nat} (H : spec_l3Same.f k l0 l1 = some r) (hn0 : n0 = l0.length := by exact ln) (hn1 : n1 = l1.length := by exact ln) : Promise Try.prog tb 56 [.lit n0 (ii l0), .lit n1 (ii l1)] (.bool r) := by
  subst hn0
  subst hn1
  have E := @reF _ (fun r : (Bool) => .bool r) r
  refine promise_body tb_ok rfl lv56 dr56 Try.func56 ok56 rfl ?_
  unfold spec_l3Same.f at H
  refine brN H ?_ ?_ <;> clear H <;> intro _ H
  ·exact E H
  ·refine L3 (fun a0 a1 a5 => ⟨asl [(0, .lit a0.length (ii a0)), (1, .lit a1.length (ii a1)), (5, .int IntKind.i64 a5)], hp []⟩) spec_l3Same.l0 H (cI [] [] []) ?_
   clear H
   intro k a0 a1 a5 L0 hk H hL0
   rw [spec_l3Same.l0] at H
   refine brI H ?_ ?_ <;> clear H <;> intro _ H
   ·replace H := oA H
    obtain ⟨_, H⟩ := H
    replace H := oA H
    obtain ⟨_, H⟩ := H
    refine aA ?_
    refine exI ?_
    refine aA ?_
    refine exI ?_
    refine brN H ?_ ?_ <;> clear H <;> intro _ H
    ·exact E H
    ·exact hL0 _ _ _ _ _ H (by omega) (cI [] [] [])
   ·exact E H
/-! spec_l4Number -/
noncomputable def lv77 : Nat → List Nat := atL [(0, [0, 3, 4, 5]), (2, [0, 3, 4, 5, 6, 7])]
noncomputable def dr77 : Nat → Dr := atD [(10, ⟨[], line [0, 1, 2, 3, 4, 5, 6, 7, 8]⟩)]
theorem ok77 : bodyOk dr77 Try.f77 = true := by kernel_rfl
set_option maxHeartbeats 8000000 in
theorem spec_l4Number.pr {k : Nat} {l0 : List (List Int)} {r : (List Int)} {n0 : Nat} {c0 : List AV} (H : spec_l4Number.f k l0 = some r) (hn0 : n0 = l0.length := by exact ln) (hc0 : mapR view c0 = iis l0 := by exact vw) : Promise Try.prog tb 77 [.lit n0 c0] (.own 3 r.length (ii r)) := by
  subst hn0
  refine Promise.weak (.cons (weak_lit hc0) <| .nil) ?_
  have E := @reF _ (fun r : (List Int) => .own 3 r.length (ii r)) r
  refine promise_body tb_ok rfl lv77 dr77 Try.func77 ok77 rfl ?_
  unfold spec_l4Number.f at H
  refine L4 (fun a0 a3 a4 a5 => ⟨asl [(0, .lit a0.length (iis a0)), (3, R 0 a3.length), (4, .int IntKind.i64 a4), (5, .int IntKind.i64 a5)], hp [.row 3 0 false (ii a3)]⟩) spec_l4Number.l0 H (cI [.old 228] [.old 228] [.old 228]) ?_
  clear H
  intro k a0 a3 a4 a5 L0 hk H hL0
  rw [spec_l4Number.l0] at H
  refine brI H ?_ ?_ <;> clear H <;> intro _ H
  ·refine L6 (fun b0 b3 b4 b5 b6 b7 => ⟨asl [(0, .lit b0.length (iis b0)), (3, R 0 b3.length), (4, .int IntKind.i64 b4), (5, .int IntKind.i64 b5), (6, .int IntKind.i64 b6), (7, .int IntKind.i64 b7)], hp [.row 3 0 false (ii b3)]⟩) spec_l4Number.l1 H (cI [.old 0] [.old 0] [.old 0]) ?_
   clear H
   intro k b0 b3 b4 b5 b6 b7 L1 hk H hL1
   rw [spec_l4Number.l1] at H
   refine brI H ?_ ?_ <;> clear H <;> intro _ H
   ·rcases k with _ | k
    · cases H
    rw [spec_l4Number.j2] at H
    refine brT ?_
    refine brT ?_
    refine brI H ?_ ?_ <;> clear H <;> intro _ H
    ·replace H := oA H
     obtain ⟨_, H⟩ := H
     replace H := oA H
     obtain ⟨_, H⟩ := H
     replace H := oA H
     obtain ⟨_, H⟩ := H
     replace H := oA H
     obtain ⟨_, H⟩ := H
     replace H := oC H
     obtain ⟨_, C0, H⟩ := H
     refine aA ?_
     refine exR ?_
     refine aA ?_
     refine exR ?_
     refine Exists.intro _ (And.intro (spec_l3Same.pr C0) ?_)
     refine brI H ?_ ?_ <;> clear H <;> intro _ H
     ·replace H := oA H
      obtain ⟨_, H⟩ := H
      refine aA ?_
      refine exI ?_
      exact hL1 _ _ _ _ _ _ _ _ H (by omega) (cI [.old 0] [.old 0] [.old 0])
     ·exact hL1 _ _ _ _ _ _ _ _ H (by omega) (cI [.old 0] [.old 0] [.old 0])
    ·refine brI H ?_ ?_ <;> clear H <;> intro _ H
     ·replace H := oA H
      obtain ⟨_, H⟩ := H
      refine aA ?_
      refine aA ?_
      refine apI ?_
      exact hL0 _ _ _ _ _ _ H (by omega) (cI [.old 0] [.old 0] [.old 0])
     ·replace H := oA H
      obtain ⟨_, H⟩ := H
      refine aA ?_
      refine aA ?_
      refine apI ?_
      exact hL0 _ _ _ _ _ _ H (by omega) (cI [.old 0] [.old 0] [.old 0])
   ·rcases k with _ | k
    · cases H
    rw [spec_l4Number.j2] at H
    replace H := oF H
    refine brF ?_
    refine brF ?_
    refine brF ?_
    refine brI H ?_ ?_ <;> clear H <;> intro _ H
    ·replace H := oA H
     obtain ⟨_, H⟩ := H
     refine aA ?_
     refine aA ?_
     refine apI ?_
     exact hL0 _ _ _ _ _ _ H (by omega) (cI [.old 0] [.old 0] [.old 0])
    ·replace H := oA H
     obtain ⟨_, H⟩ := H
     refine aA ?_
     refine aA ?_
     refine apI ?_
     exact hL0 _ _ _ _ _ _ H (by omega) (cI [.old 0] [.old 0] [.old 0])
  ·exact E H
end Go.Ev
