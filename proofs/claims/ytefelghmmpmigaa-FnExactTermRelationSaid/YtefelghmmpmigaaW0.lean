/- Walks of functions with the plain evaluator: what each computes -/
import Derived.Test.YtefelghmmpmigaaEh2
import Derived.Test.YtefelghmmpmigaaEp
namespace Go.Ev
open Go.Proofs Go Go.Proofs.YtefelghmmpmigaaW.PrintWords Go.Proofs.Ytefelghmmpmigaa.Q
set_option maxRecDepth 100000
set_option linter.unusedVariables false
attribute [local irreducible] br Loop
/-! laws_szIntS -/
noncomputable def lv31 : Nat → List Nat := atL []
noncomputable def dr31 : Nat → Dr := atD []
theorem ok31 : bodyOk dr31 Try.f31 = true := by kernel_rfl
set_option maxHeartbeats 8000000 in
theorem laws_szIntS.pr {l0 : List Int} {a1 : Int} {r : (Int)} {n0 : Nat} (H : laws_szIntS.f l0 a1 = some r) (hn0 : n0 = l0.length := by exact ln) : Promise Try.prog tb 31 [.lit n0 (ii l0), .int .i64 a1] (.int .i64 r) := by
  subst hn0
  have E := @reF _ (fun r : (Int) => .int .i64 r) r
  refine promise_body tb_ok rfl lv31 dr31 Try.func31 ok31 rfl ?_
  unfold laws_szIntS.f at H
  refine brI H ?_ ?_ <;> clear H <;> intro _ H
  ·exact E H
  ·exact E H
/-! laws_szIntSS -/
noncomputable def lv30 : Nat → List Nat := atL [(0, [0, 1, 5])]
noncomputable def dr30 : Nat → Dr := atD []
theorem ok30 : bodyOk dr30 Try.f30 = true := by kernel_rfl
set_option maxHeartbeats 8000000 in
theorem laws_szIntSS.pr {k : Nat} {l0 : List (List Int)} {a1 : Int} {r : (Int)} {n0 : Nat} {c0 : List AV} (H : laws_szIntSS.f k l0 a1 = some r) (hn0 : n0 = l0.length := by exact ln) (hc0 : mapR view c0 = iis l0 := by exact vw) : Promise Try.prog tb 30 [.lit n0 c0, .int .i64 a1] (.int .i64 r) := by
  subst hn0
  refine Promise.weak (.cons (weak_lit hc0) <| .cons (Weak.refl _) <| .nil) ?_
  have E := @reF _ (fun r : (Int) => .int .i64 r) r
  refine promise_body tb_ok rfl lv30 dr30 Try.func30 ok30 rfl ?_
  unfold laws_szIntSS.f at H
  refine brI H ?_ ?_ <;> clear H <;> intro _ H
  ·exact E H
  ·refine L3 (fun a0 a1 a5 => ⟨asl [(0, .lit a0.length (iis a0)), (1, .int IntKind.i64 a1), (5, .int IntKind.i64 a5)], hp []⟩) laws_szIntSS.l0 H (cI [] [] []) ?_
   clear H
   intro k a0 a1 a5 L0 hk H hL0
   rw [laws_szIntSS.l0] at H
   refine brI H ?_ ?_ <;> clear H <;> intro _ H
   ·replace H := oA H
    obtain ⟨_, H⟩ := H
    replace H := oC H
    obtain ⟨_, C0, H⟩ := H
    refine aA ?_
    refine exR ?_
    refine Exists.intro _ (And.intro (laws_szIntS.pr C0) ?_)
    refine brI H ?_ ?_ <;> clear H <;> intro _ H
    ·exact E H
    ·exact hL0 _ _ _ _ _ H (by omega) (cI [] [] [])
   ·exact E H
/-! laws_szSequence -/
noncomputable def lv9 : Nat → List Nat := atL []
noncomputable def dr9 : Nat → Dr := atD []
theorem ok9 : bodyOk dr9 Try.f9 = true := by kernel_rfl
set_option maxHeartbeats 8000000 in
theorem laws_szSequence.pr {k : Nat} {a0_0 : Int} {l0_1 : List (List Int)} {l0_2 : List Int} {a1 : Int} {r : (Int)} {n0 : Nat} {c0 : List AV} {n1 : Nat} (H : laws_szSequence.f k a0_0 l0_1 l0_2 a1 = some r) (hn0 : n0 = l0_1.length := by exact ln) (hc0 : mapR view c0 = iis l0_1 := by exact vw) (hn1 : n1 = l0_2.length := by exact ln) : Promise Try.prog tb 9 [.agg [.int .i64 a0_0, .lit n0 c0, .lit n1 (ii l0_2)], .int .i64 a1] (.int .i64 r) := by
  subst hn0
  subst hn1
  refine Promise.weak (.cons (weak_agg (.cons (Weak.refl _) <| .cons (weak_lit hc0) <| .cons (Weak.refl _) <| .nil)) <| .cons (Weak.refl _) <| .nil) ?_
  have E := @reF _ (fun r : (Int) => .int .i64 r) r
  refine promise_body tb_ok rfl lv9 dr9 Try.func9 ok9 rfl ?_
  unfold laws_szSequence.f at H
  replace H := oC H
  obtain ⟨_, C0, H⟩ := H
  refine aA ?_
  refine exV ?_
  refine Exists.intro _ (And.intro (laws_szIntSS.pr C0) ?_)
  refine brI H ?_ ?_ <;> clear H <;> intro _ H
  ·exact E H
  ·replace H := oC H
   obtain ⟨_, C1, H⟩ := H
   refine exV ?_
   refine Exists.intro _ (And.intro (laws_szIntS.pr C1) ?_)
   refine brI H ?_ ?_ <;> clear H <;> intro _ H
   ·exact E H
   ·exact E H
/-! spec_l1In -/
noncomputable def lv33 : Nat → List Nat := atL []
noncomputable def dr33 : Nat → Dr := atD []
theorem ok33 : bodyOk dr33 Try.f33 = true := by kernel_rfl
set_option maxHeartbeats 8000000 in
theorem spec_l1In.pr {a0 : Int} {a1 : Int} {a2 : Int} {r : (Bool)} (H : spec_l1In.f a0 a1 a2 = some r) : Promise Try.prog tb 33 [.int .i64 a0, .int .i64 a1, .int .i64 a2] (.bool r) := by
  have E := @reF _ (fun r : (Bool) => .bool r) r
  refine promise_body tb_ok rfl lv33 dr33 Try.func33 ok33 rfl ?_
  unfold spec_l1In.f at H
  refine brI H ?_ ?_ <;> clear H <;> intro _ H
  ·refine brT ?_
   refine brT ?_
   refine brT ?_
   exact E H
  ·refine brF ?_
   refine brF ?_
   refine brF ?_
   exact E H
/-! spec_IsSequence -/
noncomputable def lv85 : Nat → List Nat := atL [(0, [1, 3]), (2, [1, 3, 4]), (4, [1, 5])]
noncomputable def dr85 : Nat → Dr := atD [(4, ⟨[], line [0, 1, 2, 3, 4, 5, 6, 7, 8]⟩), (9, ⟨[], line [0, 1, 2, 3, 4, 5, 6, 7, 8, 9, 10, 11, 12, 13, 14, 15, 16, 17, 18, 19, 20, 21, 22]⟩)]
theorem ok85 : bodyOk dr85 Try.f85 = true := by kernel_rfl
set_option maxHeartbeats 8000000 in
theorem spec_IsSequence.pr {k : Nat} {a0_0 : Int} {l0_1 : List (List Int)} {l0_2 : List Int} {r : (Bool)} {n0 : Nat} {c0 : List AV} {n1 : Nat} (H : spec_IsSequence.f k a0_0 l0_1 l0_2 = some r) (hn0 : n0 = l0_1.length := by exact ln) (hc0 : mapR view c0 = iis l0_1 := by exact vw) (hn1 : n1 = l0_2.length := by exact ln) : Promise Try.prog tb 85 [.agg [.int .i64 a0_0, .lit n0 c0, .lit n1 (ii l0_2)]] (.bool r) := by
  subst hn0
  subst hn1
  refine Promise.weak (.cons (weak_agg (.cons (Weak.refl _) <| .cons (weak_lit hc0) <| .cons (Weak.refl _) <| .nil)) <| .nil) ?_
  have E := @reF _ (fun r : (Bool) => .bool r) r
  refine promise_body tb_ok rfl lv85 dr85 Try.func85 ok85 rfl ?_
  unfold spec_IsSequence.f at H
  refine aA ?_
  refine L4 (fun a3 a107000 a107001 a107002 => ⟨asl [(1, .ptr 0 0), (3, .int IntKind.i64 a3)], hp [.box 32 [.int IntKind.i64 a107000, .lit a107001.length (iis a107001), .lit a107002.length (ii a107002)]]⟩) spec_IsSequence.l0 H (cI [.old 116] [.old 116] [.old 116]) ?_
  clear H
  intro k a3 a107000 a107001 a107002 L0 hk H hL0
  rw [spec_IsSequence.l0] at H
  refine exV ?_
  refine brI H ?_ ?_ <;> clear H <;> intro _ H
  ·replace H := oA H
   obtain ⟨_, H⟩ := H
   refine exV ?_
   refine aA ?_
   refine exR ?_
   refine exV ?_
   refine brN H ?_ ?_ <;> clear H <;> intro _ H
   ·exact E H
   ·refine L5 (fun b3 b4 b107000 b107001 b107002 => ⟨asl [(1, .ptr 0 0), (3, .int IntKind.i64 b3), (4, .int IntKind.i64 b4)], hp [.box 32 [.int IntKind.i64 b107000, .lit b107001.length (iis b107001), .lit b107002.length (ii b107002)]]⟩) spec_IsSequence.l1 H (cI [.old 0] [.old 0] [.old 0]) ?_
    clear H
    intro k b3 b4 b107000 b107001 b107002 L1 hk H hL1
    rw [spec_IsSequence.l1] at H
    replace H := oA H
    obtain ⟨_, H⟩ := H
    replace H := oA H
    obtain ⟨_, H⟩ := H
    refine exV ?_
    refine aA ?_
    refine exR ?_
    refine brI H ?_ ?_ <;> clear H <;> intro _ H
    ·replace H := oA H
     obtain ⟨_, H⟩ := H
     refine exV ?_
     refine aA ?_
     refine exR ?_
     refine aA ?_
     refine exI ?_
     refine brI H ?_ ?_ <;> clear H <;> intro _ H
     ·refine brT ?_
      refine brT ?_
      refine brT ?_
      refine brT ?_
      refine brT ?_
      refine brT ?_
      refine brT ?_
      refine brT ?_
      refine brT ?_
      refine brT ?_
      refine brT ?_
      refine brT ?_
      refine brT ?_
      exact E H
     ·refine brF ?_
      refine exV ?_
      refine brF ?_
      refine brF ?_
      refine aA ?_
      refine brF ?_
      refine exR ?_
      refine brF ?_
      refine brF ?_
      refine aA ?_
      refine brF ?_
      refine exI ?_
      refine brF ?_
      refine brF ?_
      refine exV ?_
      refine brF ?_
      refine brF ?_
      refine brF ?_
      refine brI H ?_ ?_ <;> clear H <;> intro _ H
      ·exact E H
      ·exact hL1 _ _ _ _ _ _ _ H (by omega) (cI [.old 0] [.old 0] [.old 0])
    ·exact hL0 _ _ _ _ _ _ H (by omega) (cI [.old 0] [.old 0] [.old 0])
  ·refine L4 (fun b5 b107000 b107001 b107002 => ⟨asl [(1, .ptr 0 0), (5, .int IntKind.i64 b5)], hp [.box 32 [.int IntKind.i64 b107000, .lit b107001.length (iis b107001), .lit b107002.length (ii b107002)]]⟩) spec_IsSequence.l2 H (cI [.old 0] [.old 0] [.old 0]) ?_
   clear H
   intro k b5 b107000 b107001 b107002 L1 hk H hL1
   rw [spec_IsSequence.l2] at H
   refine exV ?_
   refine brI H ?_ ?_ <;> clear H <;> intro _ H
   ·replace H := oA H
    obtain ⟨_, H⟩ := H
    replace H := oC H
    obtain ⟨_, C0, H⟩ := H
    refine exV ?_
    refine aA ?_
    refine exI ?_
    refine Exists.intro _ (And.intro (spec_l1In.pr C0) ?_)
    refine brN H ?_ ?_ <;> clear H <;> intro _ H
    ·exact E H
    ·exact hL1 _ _ _ _ _ _ H (by omega) (cI [.old 0] [.old 0] [.old 0])
   ·replace H := oC H
    obtain ⟨_, C0, H⟩ := H
    refine exV ?_
    refine Exists.intro _ (And.intro (spec_l1In.pr C0) ?_)
    refine brI H ?_ ?_ <;> clear H <;> intro _ H
    ·replace H := oC H
     obtain ⟨_, C1, H⟩ := H
     refine brT ?_
     refine exV ?_
     refine brT ?_
     refine brT ?_
     refine Exists.intro _ (And.intro (spec_l1In.pr C1) ?_)
     refine brT ?_
     refine brI H ?_ ?_ <;> clear H <;> intro _ H
     ·refine brT ?_
      refine exV ?_
      refine brT ?_
      refine brT ?_
      refine brT ?_
      refine exV ?_
      refine brT ?_
      refine brT ?_
      refine brT ?_
      exact E H
     ·refine brF ?_
      refine brF ?_
      refine brF ?_
      refine brF ?_
      refine brF ?_
      refine brF ?_
      refine brF ?_
      exact E H
    ·refine brF ?_
     refine brF ?_
     refine brF ?_
     refine brF ?_
     refine brF ?_
     refine brF ?_
     refine brF ?_
     refine brF ?_
     refine brF ?_
     refine brF ?_
     refine brF ?_
     refine brF ?_
     exact E H
/-! spec_IsSteady -/
noncomputable def lv86 : Nat → List Nat := atL []
noncomputable def dr86 : Nat → Dr := atD []
theorem ok86 : bodyOk dr86 Try.f86 = true := by kernel_rfl
set_option maxHeartbeats 8000000 in
theorem spec_IsSteady.pr {k : Nat} {a0_0 : Int} {l0_1 : List (List Int)} {l0_2 : List Int} {r : (Bool)} {n0 : Nat} {c0 : List AV} {n1 : Nat} (H : spec_IsSteady.f k a0_0 l0_1 l0_2 = some r) (hn0 : n0 = l0_1.length := by exact ln) (hc0 : mapR view c0 = iis l0_1 := by exact vw) (hn1 : n1 = l0_2.length := by exact ln) : Promise Try.prog tb 86 [.agg [.int .i64 a0_0, .lit n0 c0, .lit n1 (ii l0_2)]] (.bool r) := by
  subst hn0
  subst hn1
  refine Promise.weak (.cons (weak_agg (.cons (Weak.refl _) <| .cons (weak_lit hc0) <| .cons (Weak.refl _) <| .nil)) <| .nil) ?_
  have E := @reF _ (fun r : (Bool) => .bool r) r
  refine promise_body tb_ok rfl lv86 dr86 Try.func86 ok86 rfl ?_
  unfold spec_IsSteady.f at H
  replace H := oC H
  obtain ⟨_, C0, H⟩ := H
  refine aA ?_
  refine leE ?_
  refine aA ?_
  refine Exists.intro _ (And.intro (spec_IsSequence.pr C0) ?_)
  refine brI H ?_ ?_ <;> clear H <;> intro _ H
  ·replace H := oA H
   obtain ⟨_, H⟩ := H
   replace H := oA H
   obtain ⟨_, H⟩ := H
   refine brT ?_
   refine exV ?_
   refine brT ?_
   refine aA ?_
   refine brT ?_
   refine exR (i := 0) ?_
   refine brT ?_
   refine aA ?_
   refine brT ?_
   refine exI (i := 0) ?_
   refine brT ?_
   refine brT ?_
   exact E H
  ·refine brF ?_
   refine brF ?_
   refine brF ?_
   refine brF ?_
   refine brF ?_
   refine brF ?_
   refine brF ?_
   exact E H
/-! spec_l3Copy -/
noncomputable def lv87 : Nat → List Nat := atL [(0, [1, 2, 3, 4])]
noncomputable def dr87 : Nat → Dr := atD [(1, ⟨[(0, 1, []), (1, 1, []), (2, 0, [148]), (3, 1, []), (4, 1, []), (5, 0, [148]), (6, 0, [148])], line [0, 1, 3, 4, 7, 2, 5, 6, 8]⟩), (5, ⟨[(0, 1, []), (1, 1, []), (3, 1, []), (4, 1, []), (5, 1, []), (6, 1, []), (7, 1, [])], line [0, 1, 3, 4, 5, 6, 7, 2, 8, 9, 10, 11, 12]⟩)]
theorem ok87 : bodyOk dr87 Try.f87 = true := by kernel_rfl
set_option maxHeartbeats 8000000 in
theorem spec_l3Copy.pr {k : Nat} {a0_0 : Int} {l0_1 : List (List Int)} {l0_2 : List Int} {r : (Int × (List (List Int)) × List Int)} {n0 : Nat} {c0 : List AV} {n1 : Nat} (H : spec_l3Copy.f k a0_0 l0_1 l0_2 = some r) (hn0 : n0 = l0_1.length := by exact ln) (hc0 : mapR view c0 = iis l0_1 := by exact vw) (hn1 : n1 = l0_2.length := by exact ln) : Promise Try.prog tb 87 [.agg [.int .i64 a0_0, .lit n0 c0, .lit n1 (ii l0_2)]] (.agg [.int .i64 r.1, .own 23 r.2.1.length (ois 3 r.2.1), .own 3 r.2.2.length (ii r.2.2)]) := by
  subst hn0
  subst hn1
  refine Promise.weak (.cons (weak_agg (.cons (Weak.refl _) <| .cons (weak_lit hc0) <| .cons (Weak.refl _) <| .nil)) <| .nil) ?_
  have E := @reF _ (fun r : (Int × (List (List Int)) × List Int) => .agg [.int .i64 r.1, .own 23 r.2.1.length (ois 3 r.2.1), .own 3 r.2.2.length (ii r.2.2)]) r
  refine promise_body tb_ok rfl lv87 dr87 Try.func87 ok87 rfl ?_
  unfold spec_l3Copy.f at H
  replace H := oD H
  replace H := oA H
  obtain ⟨_, H⟩ := H
  refine aA ?_
  refine exV ?_
  refine exV ?_
  refine aA ?_
  refine aA ?_
  refine leE ?_
  refine aA ?_
  refine L7 (fun a4 a122000 a122001 a122002 a130000 a130001 a130002 => ⟨asl [(1, .ptr 0 0), (2, .ptr 1 0), (3, .ptr 2 0), (4, .int IntKind.i64 a4)], hp [.box 32 [.int IntKind.i64 a122000, .lit a122001.length (iis a122001), .lit a122002.length (ii a122002)], .box 32 [.int IntKind.i64 0, R 3 0, R 4 0], .box 32 [.int IntKind.i64 a130000, R 5 a130001.length, R 6 a130002.length], .row 23 0 false [], .row 3 0 false [], .row 23 0 false (ois 3 a130001), .row 3 0 false (ii a130002)]⟩) spec_l3Copy.l0 H (cI [.old 116, .old 132, .old 148] [.old 116, .old 132, .old 148, .nilB 132 1, .nilB 132 2, .nilB 148 1, .old 212] [.old 116, .old 132, .old 148, .nilB 132 1, .nilB 132 2, .nilB 148 1, .old 212]) ?_
  clear H
  intro k a4 a122000 a122001 a122002 a130000 a130001 a130002 L0 hk H hL0
  rw [spec_l3Copy.l0] at H
  refine exV ?_
  refine brI H ?_ ?_ <;> clear H <;> intro _ H
  ·replace H := oD H
   replace H := oA H
   obtain ⟨_, H⟩ := H
   replace H := oA H
   obtain ⟨_, H⟩ := H
   replace H := oA H
   obtain ⟨_, H⟩ := H
   refine exV ?_
   refine exV ?_
   refine aA ?_
   refine exR ?_
   refine aA ?_
   refine aA ?_
   refine leE ?_
   refine aA ?_
   refine apO ?_
   refine aA ?_
   exact hL0 _ _ _ _ _ _ _ _ _ H (by omega) (cI [.old 0, .old 1, .old 2] [.old 0, .old 1, .old 2, .old 3, .old 4, .old 5, .old 6] [.old 0, .old 1, .old 2, .old 3, .old 4, .old 5, .old 6])
  ·refine leE ?_
   refine aA ?_
   refine aA ?_
   refine leE ?_
   refine aA ?_
   exact E H
/-! spec_SteadyForm -/
noncomputable def lv68 : Nat → List Nat := atL [(0, [1, 2, 4, 5, 6]), (2, [1, 2, 4, 7]), (4, [1, 2, 4, 7, 8, 9])]
noncomputable def dr68 : Nat → Dr := atD [(5, ⟨[(0, 1, []), (1, 1, []), (6, 0, [164]), (7, 1, []), (8, 1, []), (9, 0, [164]), (10, 0, [164])], line [0, 1, 2, 3, 4, 5, 7, 8, 11, 6, 9, 10, 12]⟩)]
theorem ok68 : bodyOk dr68 Try.f68 = true := by kernel_rfl
set_option maxHeartbeats 8000000 in
theorem spec_SteadyForm.pr {k : Nat} {a0_0 : Int} {l0_1 : List (List Int)} {l0_2 : List Int} {r : (Int × (List (List Int)) × List Int × Bool)} {n0 : Nat} {c0 : List AV} {n1 : Nat} (H : spec_SteadyForm.f k a0_0 l0_1 l0_2 = some r) (hn0 : n0 = l0_1.length := by exact ln) (hc0 : mapR view c0 = iis l0_1 := by exact vw) (hn1 : n1 = l0_2.length := by exact ln) : Promise Try.prog tb 68 [.agg [.int .i64 a0_0, .lit n0 c0, .lit n1 (ii l0_2)]] (.tup [.agg [.int .i64 r.1, .own 23 r.2.1.length (ois 3 r.2.1), .own 3 r.2.2.1.length (ii r.2.2.1)], .bool r.2.2.2]) := by
  subst hn0
  subst hn1
  refine Promise.weak (.cons (weak_agg (.cons (Weak.refl _) <| .cons (weak_lit hc0) <| .cons (Weak.refl _) <| .nil)) <| .nil) ?_
  have E := @reF _ (fun r : (Int × (List (List Int)) × List Int × Bool) => .tup [.agg [.int .i64 r.1, .own 23 r.2.1.length (ois 3 r.2.1), .own 3 r.2.2.1.length (ii r.2.2.1)], .bool r.2.2.2]) r
  refine promise_body tb_ok rfl lv68 dr68 Try.func68 ok68 rfl ?_
  unfold spec_SteadyForm.f at H
  replace H := oC H
  obtain ⟨_, C0, H⟩ := H
  refine aA ?_
  refine leE ?_
  refine aA ?_
  refine Exists.intro _ (And.intro (spec_IsSequence.pr C0) ?_)
  refine brN H ?_ ?_ <;> clear H <;> intro _ H
  ·rcases k with _ | k
   · cases H
   rw [spec_SteadyForm.j0] at H
   replace H := oT H
   refine brT ?_
   refine brT ?_
   refine brT ?_
   refine brT ?_
   refine brT ?_
   refine brT ?_
   refine brT ?_
   refine aA ?_
   refine leE ?_
   refine aA ?_
   exact E H
  ·refine brF ?_
   refine exV ?_
   refine brF ?_
   refine brF ?_
   refine brF ?_
   refine brI H ?_ ?_ <;> clear H <;> intro _ H
   ·replace H := oC H
    obtain ⟨_, C1, H⟩ := H
    rcases k with _ | k
    · cases H
    rw [spec_SteadyForm.j0] at H
    refine leE ?_
    refine aA ?_
    refine brT ?_
    refine Exists.intro _ (And.intro (spec_IsSteady.pr C1) ?_)
    refine brT ?_
    refine brF ?_
    refine brT ?_
    refine brF ?_
    refine brI H ?_ ?_ <;> clear H <;> intro _ H
    ·refine aA ?_
     refine leE ?_
     refine aA ?_
     exact E H
    ·replace H := oC H
     obtain ⟨_, C2, H⟩ := H
     refine leE ?_
     refine aA ?_
     refine Exists.intro _ (And.intro (spec_IsSteady.pr C2) ?_)
     refine brI H ?_ ?_ <;> clear H <;> intro _ H
     ·replace H := oC H
      obtain ⟨_, C3, H⟩ := H
      refine leE ?_
      refine aA ?_
      refine Exists.intro _ (And.intro (spec_l3Copy.pr C3) ?_)
      refine aA ?_
      refine leE ?_
      refine aA ?_
      exact E H
     ·replace H := oA H
      obtain ⟨_, H⟩ := H
      replace H := oD H
      replace H := oA H
      obtain ⟨_, H⟩ := H
      refine exV ?_
      refine exV ?_
      refine aA ?_
      refine exI (i := 0) ?_
      refine exV ?_
      refine aA ?_
      refine aA ?_
      refine leE ?_
      refine aA ?_
      refine L7 (fun a5 a6 a141000 a141001 a141002 a160000 a160002 => ⟨asl [(1, .ptr 0 0), (2, .ptr 1 0), (4, .ptr 2 0), (5, R 3 a5.length), (6, .int IntKind.i64 a6)], hp [.box 32 [.int IntKind.i64 a141000, .lit a141001.length (iis a141001), .lit a141002.length (ii a141002)], .box 32 [.int IntKind.i64 0, R 4 0, R 5 0], .box 32 [.int IntKind.i64 a160000, R 6 0, R 7 a160002.length], .row 3 0 false (ii a5), .row 23 0 false [], .row 3 0 false [], .row 23 0 false [], .row 3 0 false (ii a160002)]⟩) spec_SteadyForm.l0 H (cI [.old 116, .old 132, .old 164, .old 740] [.old 116, .old 132, .old 164, .old 740, .nilB 132 1, .nilB 132 2, .nilB 164 1, .old 660] [.old 116, .old 132, .old 164, .old 740, .nilB 132 1, .nilB 132 2, .nilB 164 1, .old 660]) ?_
      clear H
      intro k a5 a6 a141000 a141001 a141002 a160000 a160002 L0 hk H hL0
      rw [spec_SteadyForm.l0] at H
      refine exV ?_
      refine brI H ?_ ?_ <;> clear H <;> intro _ H
      ·replace H := oA H
       obtain ⟨_, H⟩ := H
       replace H := oA H
       obtain ⟨_, H⟩ := H
       replace H := oA H
       obtain ⟨_, H⟩ := H
       replace H := oA H
       obtain ⟨_, H⟩ := H
       refine exV ?_
       refine aA ?_
       refine exR (i := 0) ?_
       refine aA ?_
       refine exI ?_
       refine aA ?_
       refine aA ?_
       refine apI ?_
       exact hL0 _ _ _ _ _ _ _ _ _ H (by omega) (cI [.old 0, .old 1, .old 2, .old 3] [.old 0, .old 1, .old 2, .old 3, .old 4, .old 5, .old 6, .old 7] [.old 0, .old 1, .old 2, .old 3, .old 4, .old 5, .old 6, .old 7])
      ·replace H := oT H
       refine exV ?_
       refine aA ?_
       refine leE ?_
       refine aA ?_
       refine L7 (fun b7 b141000 b141001 b141002 b160000 b160001 b160002 => ⟨asl [(1, .ptr 0 0), (2, .ptr 1 0), (4, .ptr 2 0), (7, .int IntKind.i64 b7)], hp [.box 32 [.int IntKind.i64 b141000, .lit b141001.length (iis b141001), .lit b141002.length (ii b141002)], .box 32 [.int IntKind.i64 0, R 3 0, R 4 0], .box 32 [.int IntKind.i64 b160000, R 5 b160001.length, R 6 b160002.length], .row 23 0 false [], .row 3 0 false [], .row 23 0 false (ois 3 b160001), .row 3 0 false (ii b160002)]⟩) spec_SteadyForm.l1 H (cI [.old 0, .old 1, .old 2] [.old 0, .old 1, .old 2, .old 4, .old 5, .old 6, .old 7] [.old 0, .old 1, .old 2, .old 4, .old 5, .old 6, .old 7]) ?_
       clear H
       intro k b7 b141000 b141001 b141002 b160000 b160001 b160002 L1 hk H hL1
       rw [spec_SteadyForm.l1] at H
       refine exV ?_
       refine brI H ?_ ?_ <;> clear H <;> intro _ H
       ·refine L9 (fun c7 c8 c9 c141000 c141001 c141002 c160000 c160001 c160002 => ⟨asl [(1, .ptr 0 0), (2, .ptr 1 0), (4, .ptr 2 0), (7, .int IntKind.i64 c7), (8, R 3 c8.length), (9, .int IntKind.i64 c9)], hp [.box 32 [.int IntKind.i64 c141000, .lit c141001.length (iis c141001), .lit c141002.length (ii c141002)], .box 32 [.int IntKind.i64 0, R 4 0, R 5 0], .box 32 [.int IntKind.i64 c160000, R 6 c160001.length, R 7 c160002.length], .row 3 0 false (ii c8), .row 23 0 false [], .row 3 0 false [], .row 23 0 false (ois 3 c160001), .row 3 0 false (ii c160002)]⟩) spec_SteadyForm.l2 H (cI [.old 0, .old 1, .old 2, .old 1236] [.old 0, .old 1, .old 2, .old 1236, .old 3, .old 4, .old 5, .old 6] [.old 0, .old 1, .old 2, .old 1236, .old 3, .old 4, .old 5, .old 6]) ?_
        clear H
        intro k c7 c8 c9 c141000 c141001 c141002 c160000 c160001 c160002 L2 hk H hL2
        rw [spec_SteadyForm.l2] at H
        refine exV ?_
        refine brI H ?_ ?_ <;> clear H <;> intro _ H
        ·replace H := oA H
         obtain ⟨_, H⟩ := H
         replace H := oA H
         obtain ⟨_, H⟩ := H
         replace H := oA H
         obtain ⟨_, H⟩ := H
         replace H := oA H
         obtain ⟨_, H⟩ := H
         replace H := oA H
         obtain ⟨_, H⟩ := H
         refine exV ?_
         refine aA ?_
         refine exR ?_
         refine aA ?_
         refine exI ?_
         refine aA ?_
         refine aA ?_
         refine apI ?_
         exact hL2 _ _ _ _ _ _ _ _ _ _ _ H (by omega) (cI [.old 0, .old 1, .old 2, .old 3] [.old 0, .old 1, .old 2, .old 3, .old 4, .old 5, .old 6, .old 7] [.old 0, .old 1, .old 2, .old 3, .old 4, .old 5, .old 6, .old 7])
        ·replace H := oA H
         obtain ⟨_, H⟩ := H
         refine exV ?_
         refine aA ?_
         refine apO ?_
         refine aA ?_
         exact hL1 _ _ _ _ _ _ _ _ _ H (by omega) (cI [.old 0, .old 1, .old 2] [.old 0, .old 1, .old 2, .old 4, .old 5, .old 6, .old 7] [.old 0, .old 1, .old 2, .old 4, .old 5, .old 6, .old 7])
       ·refine leE ?_
        refine aA ?_
        refine aA ?_
        refine leE ?_
        refine aA ?_
        exact E H
   ·rcases k with _ | k
    · cases H
    rw [spec_SteadyForm.j0] at H
    replace H := oF H
    replace H := oC H
    obtain ⟨_, C1, H⟩ := H
    refine brF ?_
    refine brF ?_
    refine brF ?_
    refine brF ?_
    refine brF ?_
    refine brF ?_
    refine leE ?_
    refine aA ?_
    refine Exists.intro _ (And.intro (spec_IsSteady.pr C1) ?_)
    refine brI H ?_ ?_ <;> clear H <;> intro _ H
    ·replace H := oC H
     obtain ⟨_, C2, H⟩ := H
     refine leE ?_
     refine aA ?_
     refine Exists.intro _ (And.intro (spec_l3Copy.pr C2) ?_)
     refine aA ?_
     refine leE ?_
     refine aA ?_
     exact E H
    ·replace H := oA H
     obtain ⟨_, H⟩ := H
     replace H := oD H
     replace H := oA H
     obtain ⟨_, H⟩ := H
     refine exV ?_
     refine exV ?_
     refine aA ?_
     refine exI (i := 0) ?_
     refine exV ?_
     refine aA ?_
     refine aA ?_
     refine leE ?_
     refine aA ?_
     refine L7 (fun a5 a6 a141000 a141001 a141002 a160000 a160002 => ⟨asl [(1, .ptr 0 0), (2, .ptr 1 0), (4, .ptr 2 0), (5, R 3 a5.length), (6, .int IntKind.i64 a6)], hp [.box 32 [.int IntKind.i64 a141000, .lit a141001.length (iis a141001), .lit a141002.length (ii a141002)], .box 32 [.int IntKind.i64 0, R 4 0, R 5 0], .box 32 [.int IntKind.i64 a160000, R 6 0, R 7 a160002.length], .row 3 0 false (ii a5), .row 23 0 false [], .row 3 0 false [], .row 23 0 false [], .row 3 0 false (ii a160002)]⟩) spec_SteadyForm.l0 H (cI [.old 116, .old 132, .old 164, .old 740] [.old 116, .old 132, .old 164, .old 740, .nilB 132 1, .nilB 132 2, .nilB 164 1, .old 660] [.old 116, .old 132, .old 164, .old 740, .nilB 132 1, .nilB 132 2, .nilB 164 1, .old 660]) ?_
     clear H
     intro k a5 a6 a141000 a141001 a141002 a160000 a160002 L0 hk H hL0
     rw [spec_SteadyForm.l0] at H
     refine exV ?_
     refine brI H ?_ ?_ <;> clear H <;> intro _ H
     ·replace H := oA H
      obtain ⟨_, H⟩ := H
      replace H := oA H
      obtain ⟨_, H⟩ := H
      replace H := oA H
      obtain ⟨_, H⟩ := H
      replace H := oA H
      obtain ⟨_, H⟩ := H
      refine exV ?_
      refine aA ?_
      refine exR (i := 0) ?_
      refine aA ?_
      refine exI ?_
      refine aA ?_
      refine aA ?_
      refine apI ?_
      exact hL0 _ _ _ _ _ _ _ _ _ H (by omega) (cI [.old 0, .old 1, .old 2, .old 3] [.old 0, .old 1, .old 2, .old 3, .old 4, .old 5, .old 6, .old 7] [.old 0, .old 1, .old 2, .old 3, .old 4, .old 5, .old 6, .old 7])
     ·replace H := oT H
      refine exV ?_
      refine aA ?_
      refine leE ?_
      refine aA ?_
      refine L7 (fun b7 b141000 b141001 b141002 b160000 b160001 b160002 => ⟨asl [(1, .ptr 0 0), (2, .ptr 1 0), (4, .ptr 2 0), (7, .int IntKind.i64 b7)], hp [.box 32 [.int IntKind.i64 b141000, .lit b141001.length (iis b141001), .lit b141002.length (ii b141002)], .box 32 [.int IntKind.i64 0, R 3 0, R 4 0], .box 32 [.int IntKind.i64 b160000, R 5 b160001.length, R 6 b160002.length], .row 23 0 false [], .row 3 0 false [], .row 23 0 false (ois 3 b160001), .row 3 0 false (ii b160002)]⟩) spec_SteadyForm.l1 H (cI [.old 0, .old 1, .old 2] [.old 0, .old 1, .old 2, .old 4, .old 5, .old 6, .old 7] [.old 0, .old 1, .old 2, .old 4, .old 5, .old 6, .old 7]) ?_
      clear H
      intro k b7 b141000 b141001 b141002 b160000 b160001 b160002 L1 hk H hL1
      rw [spec_SteadyForm.l1] at H
      refine exV ?_
      refine brI H ?_ ?_ <;> clear H <;> intro _ H
      ·refine L9 (fun c7 c8 c9 c141000 c141001 c141002 c160000 c160001 c160002 => ⟨asl [(1, .ptr 0 0), (2, .ptr 1 0), (4, .ptr 2 0), (7, .int IntKind.i64 c7), (8, R 3 c8.length), (9, .int IntKind.i64 c9)], hp [.box 32 [.int IntKind.i64 c141000, .lit c141001.length (iis c141001), .lit c141002.length (ii c141002)], .box 32 [.int IntKind.i64 0, R 4 0, R 5 0], .box 32 [.int IntKind.i64 c160000, R 6 c160001.length, R 7 c160002.length], .row 3 0 false (ii c8), .row 23 0 false [], .row 3 0 false [], .row 23 0 false (ois 3 c160001), .row 3 0 false (ii c160002)]⟩) spec_SteadyForm.l2 H (cI [.old 0, .old 1, .old 2, .old 1236] [.old 0, .old 1, .old 2, .old 1236, .old 3, .old 4, .old 5, .old 6] [.old 0, .old 1, .old 2, .old 1236, .old 3, .old 4, .old 5, .old 6]) ?_
       clear H
       intro k c7 c8 c9 c141000 c141001 c141002 c160000 c160001 c160002 L2 hk H hL2
       rw [spec_SteadyForm.l2] at H
       refine exV ?_
       refine brI H ?_ ?_ <;> clear H <;> intro _ H
       ·replace H := oA H
        obtain ⟨_, H⟩ := H
        replace H := oA H
        obtain ⟨_, H⟩ := H
        replace H := oA H
        obtain ⟨_, H⟩ := H
        replace H := oA H
        obtain ⟨_, H⟩ := H
        replace H := oA H
        obtain ⟨_, H⟩ := H
        refine exV ?_
        refine aA ?_
        refine exR ?_
        refine aA ?_
        refine exI ?_
        refine aA ?_
        refine aA ?_
        refine apI ?_
        exact hL2 _ _ _ _ _ _ _ _ _ _ _ H (by omega) (cI [.old 0, .old 1, .old 2, .old 3] [.old 0, .old 1, .old 2, .old 3, .old 4, .old 5, .old 6, .old 7] [.old 0, .old 1, .old 2, .old 3, .old 4, .old 5, .old 6, .old 7])
       ·replace H := oA H
        obtain ⟨_, H⟩ := H
        refine exV ?_
        refine aA ?_
        refine apO ?_
        refine aA ?_
        exact hL1 _ _ _ _ _ _ _ _ _ H (by omega) (cI [.old 0, .old 1, .old 2] [.old 0, .old 1, .old 2, .old 4, .old 5, .old 6, .old 7] [.old 0, .old 1, .old 2, .old 4, .old 5, .old 6, .old 7])
      ·refine leE ?_
       refine aA ?_
       refine aA ?_
       refine leE ?_
       refine aA ?_
       exact E H
/-! spec_l3Same -/
noncomputable def lv56 : Nat → List Nat := atL [(0, [0, 1, 5])]
noncomputable def dr56 : Nat → Dr := atD [(6, ⟨[], line [0, 1, 2, 3, 4, 5, 6, 7, 8]⟩)]
theorem ok56 : bodyOk dr56 Try.f56 = true := by kernel_rfl
set_option maxHeartbeats 8000000 in
theorem spec_l3Same.pr {k : Nat} {l0 : List Int} {l1 : List Int} {r : (Bool)} {n0 : Nat} {n1 : Nat} (H : spec_l3Same.f k l0 l1 = some r) (hn0 : n0 = l0.length := by exact ln) (hn1 : n1 = l1.length := by exact ln) : Promise Try.prog tb 56 [.lit n0 (ii l0), .lit n1 (ii l1)] (.bool r) := by
  subst hn0
  subst hn1
  have E := @reF _ (fun r : (Bool) => .bool r) r
  refine promise_body tb_ok rfl lv56 dr56 Try.func56 ok56 rfl ?_
  unfold spec_l3Same.f at H
  refine brN H ?_ ?_ <;> clear H <;> intro _ H
  ·exact E H
  ·refine L3 (fun a0 a1 a5 => ⟨asl [(0, .lit a0.length (ii a0)), (1, .lit a1.length (ii a1)), (5, .int IntKind.i64 a5)], hp []⟩) spec_l3Same.l0 H (cI [] [] []) ?_
   clear H
   intro k a0 a1 a5 L0 hk H hL0
   rw [spec_l3Same.l0] at H
   refine brI H ?_ ?_ <;> clear H <;> intro _ H
   ·replace H := oA H
    obtain ⟨_, H⟩ := H
    replace H := oA H
    obtain ⟨_, H⟩ := H
    refine aA ?_
    refine exI ?_
    refine aA ?_
    refine exI ?_
    refine brN H ?_ ?_ <;> clear H <;> intro _ H
    ·exact E H
    ·exact hL0 _ _ _ _ _ H (by omega) (cI [] [] [])
   ·exact E H
/-! spec_l4Number -/
noncomputable def lv77 : Nat → List Nat := atL [(0, [0, 3, 4, 5]), (2, [0, 3, 4, 5, 6, 7])]
noncomputable def dr77 : Nat → Dr := atD [(10, ⟨[], line [0, 1, 2, 3, 4, 5, 6, 7, 8]⟩)]
theorem ok77 : bodyOk dr77 Try.f77 = true := by kernel_rfl
set_option maxHeartbeats 8000000 in
theorem spec_l4Number.pr {k : Nat} {l0 : List (List Int)} {r : (List Int)} {n0 : Nat} {c0 : List AV} (H : spec_l4Number.f k l0 = some r) (hn0 : n0 = l0.length := by exact ln) (hc0 : mapR view c0 = iis l0 := by exact vw) : Promise Try.prog tb 77 [.lit n0 c0] (.own 3 r.length (ii r)) := by
  subst hn0
  refine Promise.weak (.cons (weak_lit hc0) <| .nil) ?_
  have E := @reF _ (fun r : (List Int) => .own 3 r.length (ii r)) r
  refine promise_body tb_ok rfl lv77 dr77 Try.func77 ok77 rfl ?_
  unfold spec_l4Number.f at H
  refine L4 (fun a0 a3 a4 a5 => ⟨asl [(0, .lit a0.length (iis a0)), (3, R 0 a3.length), (4, .int IntKind.i64 a4), (5, .int IntKind.i64 a5)], hp [.row 3 0 false (ii a3)]⟩) spec_l4Number.l0 H (cI [.old 228] [.old 228] [.old 228]) ?_
  clear H
  intro k a0 a3 a4 a5 L0 hk H hL0
  rw [spec_l4Number.l0] at H
  refine brI H ?_ ?_ <;> clear H <;> intro _ H
  ·refine L6 (fun b0 b3 b4 b5 b6 b7 => ⟨asl [(0, .lit b0.length (iis b0)), (3, R 0 b3.length), (4, .int IntKind.i64 b4), (5, .int IntKind.i64 b5), (6, .int IntKind.i64 b6), (7, .int IntKind.i64 b7)], hp [.row 3 0 false (ii b3)]⟩) spec_l4Number.l1 H (cI [.old 0] [.old 0] [.old 0]) ?_
   clear H
   intro k b0 b3 b4 b5 b6 b7 L1 hk H hL1
   rw [spec_l4Number.l1] at H
   refine brI H ?_ ?_ <;> clear H <;> intro _ H
   ·rcases k with _ | k
    · cases H
    rw [spec_l4Number.j2] at H
    refine brT ?_
    refine brT ?_
    refine brI H ?_ ?_ <;> clear H <;> intro _ H
    ·replace H := oA H
     obtain ⟨_, H⟩ := H
     replace H := oA H
     obtain ⟨_, H⟩ := H
     replace H := oA H
     obtain ⟨_, H⟩ := H
     replace H := oA H
     obtain ⟨_, H⟩ := H
     replace H := oC H
     obtain ⟨_, C0, H⟩ := H
     refine aA ?_
     refine exR ?_
     refine aA ?_
     refine exR ?_
     refine Exists.intro _ (And.intro (spec_l3Same.pr C0) ?_)
     refine brI H ?_ ?_ <;> clear H <;> intro _ H
     ·replace H := oA H
      obtain ⟨_, H⟩ := H
      refine aA ?_
      refine exI ?_
      exact hL1 _ _ _ _ _ _ _ _ H (by omega) (cI [.old 0] [.old 0] [.old 0])
     ·exact hL1 _ _ _ _ _ _ _ _ H (by omega) (cI [.old 0] [.old 0] [.old 0])
    ·refine brI H ?_ ?_ <;> clear H <;> intro _ H
     ·replace H := oA H
      obtain ⟨_, H⟩ := H
      refine aA ?_
      refine aA ?_
      refine apI ?_
      exact hL0 _ _ _ _ _ _ H (by omega) (cI [.old 0] [.old 0] [.old 0])
     ·replace H := oA H
      obtain ⟨_, H⟩ := H
      refine aA ?_
      refine aA ?_
      refine apI ?_
      exact hL0 _ _ _ _ _ _ H (by omega) (cI [.old 0] [.old 0] [.old 0])
   ·rcases k with _ | k
    · cases H
    rw [spec_l4Number.j2] at H
    replace H := oF H
    refine brF ?_
    refine brF ?_
    refine brF ?_
    refine brI H ?_ ?_ <;> clear H <;> intro _ H
    ·replace H := oA H
     obtain ⟨_, H⟩ := H
     refine aA ?_
     refine aA ?_
     refine apI ?_
     exact hL0 _ _ _ _ _ _ H (by omega) (cI [.old 0] [.old 0] [.old 0])
    ·replace H := oA H
     obtain ⟨_, H⟩ := H
     refine aA ?_
     refine aA ?_
     refine apI ?_
     exact hL0 _ _ _ _ _ _ H (by omega) (cI [.old 0] [.old 0] [.old 0])
  ·exact E H
/-! spec_StateClasses -/
noncomputable def lv69 : Nat → List Nat := atL [(0, [1, 3, 4]), (2, [1, 5, 6]), (4, [1, 3, 5, 6, 7]), (6, [1, 3, 5, 6, 7, 8, 9])]
noncomputable def dr69 : Nat → Dr := atD []
theorem ok69 : bodyOk dr69 Try.f69 = true := by kernel_rfl
set_option maxHeartbeats 8000000 in
theorem spec_StateClasses.pr {k : Nat} {a0_0 : Int} {l0_1 : List (List Int)} {l0_2 : List Int} {r : (List Int)} {n0 : Nat} {c0 : List AV} {n1 : Nat} (H : spec_StateClasses.f k a0_0 l0_1 l0_2 = some r) (hn0 : n0 = l0_1.length := by exact ln) (hc0 : mapR view c0 = iis l0_1 := by exact vw) (hn1 : n1 = l0_2.length := by exact ln) : Promise Try.prog tb 69 [.agg [.int .i64 a0_0, .lit n0 c0, .lit n1 (ii l0_2)]] (.own 3 r.length (ii r)) := by
  subst hn0
  subst hn1
  refine Promise.weak (.cons (weak_agg (.cons (Weak.refl _) <| .cons (weak_lit hc0) <| .cons (Weak.refl _) <| .nil)) <| .nil) ?_
  have E := @reF _ (fun r : (List Int) => .own 3 r.length (ii r)) r
  refine promise_body tb_ok rfl lv69 dr69 Try.func69 ok69 rfl ?_
  unfold spec_StateClasses.f at H
  replace H := oC H
  obtain ⟨_, C0, H⟩ := H
  refine aA ?_
  refine leE ?_
  refine aA ?_
  refine Exists.intro _ (And.intro (spec_IsSequence.pr C0) ?_)
  refine brN H ?_ ?_ <;> clear H <;> intro _ H
  ·exact E H
  ·refine L5 (fun a3 a4 a198000 a198001 a198002 => ⟨asl [(1, .ptr 0 0), (3, R 1 a3.length), (4, .int IntKind.i64 a4)], hp [.box 32 [.int IntKind.i64 a198000, .lit a198001.length (iis a198001), .lit a198002.length (ii a198002)], .row 23 0 false (ois 3 a3)]⟩) spec_StateClasses.l0 H (cI [.old 116, .old 324] [.old 116, .old 324] [.old 116, .old 324]) ?_
   clear H
   intro k a3 a4 a198000 a198001 a198002 L0 hk H hL0
   rw [spec_StateClasses.l0] at H
   refine exV ?_
   refine brI H ?_ ?_ <;> clear H <;> intro _ H
   ·replace H := oA H
    obtain ⟨_, H⟩ := H
    replace H := oA H
    obtain ⟨_, H⟩ := H
    refine exV ?_
    refine aA ?_
    refine exI ?_
    refine aA ?_
    refine leE ?_
    exact hL0 _ _ _ _ _ _ _ H (by omega) (cI [.old 0, .old 1] [.old 0, .old 1] [.old 0, .old 1])
   ·replace H := oC H
    obtain ⟨_, C1, H⟩ := H
    refine Exists.intro _ (And.intro (spec_l4Number.pr C1) ?_)
    refine L5 (fun b5 b6 b198000 b198001 b198002 => ⟨asl [(1, .ptr 0 0), (5, R 1 b5.length), (6, .int IntKind.i64 b6)], hp [.box 32 [.int IntKind.i64 b198000, .lit b198001.length (iis b198001), .lit b198002.length (ii b198002)], .row 3 0 false (ii b5)]⟩) spec_StateClasses.l1 H (cI [.old 0, .old 612] [.old 0, .old 612] [.old 0, .old 612]) ?_
    clear H
    intro k b5 b6 b198000 b198001 b198002 L1 hk H hL1
    rw [spec_StateClasses.l1] at H
    refine exV ?_
    refine brI H ?_ ?_ <;> clear H <;> intro _ H
    ·refine L7 (fun c3 c5 c6 c7 c198000 c198001 c198002 => ⟨asl [(1, .ptr 0 0), (3, R 1 c3.length), (5, R 2 c5.length), (6, .int IntKind.i64 c6), (7, .int IntKind.i64 c7)], hp [.box 32 [.int IntKind.i64 c198000, .lit c198001.length (iis c198001), .lit c198002.length (ii c198002)], .row 23 0 false (ois 3 c3), .row 3 0 false (ii c5)]⟩) spec_StateClasses.l2 H (cI [.old 0, .old 740, .old 1] [.old 0, .old 740, .old 1] [.old 0, .old 740, .old 1]) ?_
     clear H
     intro k c3 c5 c6 c7 c198000 c198001 c198002 L2 hk H hL2
     rw [spec_StateClasses.l2] at H
     refine exV ?_
     refine brI H ?_ ?_ <;> clear H <;> intro _ H
     ·replace H := oA H
      obtain ⟨_, H⟩ := H
      replace H := oA H
      obtain ⟨_, H⟩ := H
      refine aA ?_
      refine exI ?_
      refine L9 (fun d3 d5 d6 d7 d8 d9 d198000 d198001 d198002 => ⟨asl [(1, .ptr 0 0), (3, R 1 d3.length), (5, R 2 d5.length), (6, .int IntKind.i64 d6), (7, .int IntKind.i64 d7), (8, R 3 d8.length), (9, .int IntKind.i64 d9)], hp [.box 32 [.int IntKind.i64 d198000, .lit d198001.length (iis d198001), .lit d198002.length (ii d198002)], .row 23 0 false (ois 3 d3), .row 3 0 false (ii d5), .row 3 0 false (ii d8)]⟩) spec_StateClasses.l3 H (cI [.old 0, .old 1, .old 2, .old 932] [.old 0, .old 1, .old 2, .old 932] [.old 0, .old 1, .old 2, .old 932]) ?_
      clear H
      intro k d3 d5 d6 d7 d8 d9 d198000 d198001 d198002 L3 hk H hL3
      rw [spec_StateClasses.l3] at H
      refine exV ?_
      refine brI H ?_ ?_ <;> clear H <;> intro _ H
      ·replace H := oA H
       obtain ⟨_, H⟩ := H
       replace H := oA H
       obtain ⟨_, H⟩ := H
       replace H := oA H
       obtain ⟨_, H⟩ := H
       replace H := oA H
       obtain ⟨_, H⟩ := H
       replace H := oA H
       obtain ⟨_, H⟩ := H
       replace H := oA H
       obtain ⟨_, H⟩ := H
       replace H := oA H
       obtain ⟨_, H⟩ := H
       refine exV ?_
       refine aA ?_
       refine exR ?_
       refine aA ?_
       refine exI ?_
       refine aA ?_
       refine exI ?_
       refine aA ?_
       refine aA ?_
       refine apI ?_
       exact hL3 _ _ _ _ _ _ _ _ _ _ _ H (by omega) (cI [.old 0, .old 1, .old 2, .old 3] [.old 0, .old 1, .old 2, .old 3] [.old 0, .old 1, .old 2, .old 3])
      ·replace H := oA H
       obtain ⟨_, H⟩ := H
       refine aA ?_
       refine apO ?_
       exact hL2 _ _ _ _ _ _ _ _ _ H (by omega) (cI [.old 0, .old 1, .old 2] [.old 0, .old 1, .old 2] [.old 0, .old 1, .old 2])
     ·replace H := oC H
      obtain ⟨_, C2, H⟩ := H
      refine Exists.intro _ (And.intro (spec_l4Number.pr C2) ?_)
      exact hL1 _ _ _ _ _ _ _ H (by omega) (cI [.old 0, .old 1348] [.old 0, .old 1348] [.old 0, .old 1348])
    ·exact E H
end Go.Ev
