/- Walks of functions with the plain evaluator: what each computes -/
import Derived.Test.YtmkeicahnnlalaaEh
import Derived.Test.YtmkeicahnnlalaaEp
namespace Go.Ev
open Go.Proofs Go Go.Proofs.YtmkeicahnnlalaaW.PrintWords Go.Proofs.Ytmkeicahnnlalaa.Q
set_option maxRecDepth 100000
set_option linter.unusedVariables false
attribute [local irreducible] br Loop
/-! spec_l1In -/
noncomputable def lv39 : Nat → List Nat := atL []
noncomputable def dr39 : Nat → Dr := atD []
theorem ok39 : bodyOk dr39 Try.f39 = true := by kernel_rfl
set_option maxHeartbeats 8000000 in
theorem spec_l1In.pr {a0 : Int} {a1 : Int} {a2 : Int} {r : (Bool)} (H : spec_l1In.f a0 a1 a2 = some r) : Promise Try.prog tb 39 [.int .i64 a0, .int .i64 a1, .int .i64 a2] (.bool r) := by
  have E := @reF _ (fun r : (Bool) => .bool r) r
  refine promise_body tb_ok rfl lv39 dr39 Try.func39 ok39 rfl ?_
  unfold spec_l1In.f at H
  refine brI H ?_ ?_ <;> clear H <;> intro _ H
  ·refine brT ?_
   refine brT ?_
   refine brT ?_
   exact E H
  ·refine brF ?_
   refine brF ?_
   refine brF ?_
   exact E H
/-! spec_l11Power -/
noncomputable def lv59 : Nat → List Nat := atL [(0, [0, 1, 5, 6])]
noncomputable def dr59 : Nat → Dr := atD []
theorem ok59 : bodyOk dr59 Try.f59 = true := by kernel_rfl
set_option maxHeartbeats 8000000 in
theorem spec_l11Power.pr {k : Nat} {a0 : Int} {a1 : Int} {r : (Int)} (H : spec_l11Power.f k a0 a1 = some r) : Promise Try.prog tb 59 [.int .i64 a0, .int .i64 a1] (.int .i64 r) := by
  have E := @reF _ (fun r : (Int) => .int .i64 r) r
  refine promise_body tb_ok rfl lv59 dr59 Try.func59 ok59 rfl ?_
  unfold spec_l11Power.f at H
  refine L4 (fun a0 a1 a5 a6 => ⟨asl [(0, .int IntKind.i64 a0), (1, .int IntKind.i64 a1), (5, .int IntKind.i64 a5), (6, .int IntKind.i64 a6)], hp []⟩) spec_l11Power.l0 H (cI [] [] []) ?_
  clear H
  intro k a0 a1 a5 a6 L0 hk H hL0
  rw [spec_l11Power.l0] at H
  refine brI H ?_ ?_ <;> clear H <;> intro _ H
  ·exact hL0 _ _ _ _ _ _ H (by omega) (cI [] [] [])
  ·exact E H
/-! spec_l13Letters -/
noncomputable def lv71 : Nat → List Nat := atL []
noncomputable def dr71 : Nat → Dr := atD []
theorem ok71 : bodyOk dr71 Try.f71 = true := by kernel_rfl
set_option maxHeartbeats 8000000 in
theorem spec_l13Letters.pr {k : Nat} {a0 : Int} {a1 : Int} {r : (Int)} (H : spec_l13Letters.f k a0 a1 = some r) : Promise Try.prog tb 71 [.int .i64 a0, .int .i64 a1] (.int .i64 r) := by
  have E := @reF _ (fun r : (Int) => .int .i64 r) r
  refine promise_body tb_ok rfl lv71 dr71 Try.func71 ok71 rfl ?_
  unfold spec_l13Letters.f at H
  replace H := oC H
  obtain ⟨_, C0, H⟩ := H
  refine Exists.intro _ (And.intro (spec_l11Power.pr C0) ?_)
  exact E H
/-! spec_IsRelation -/
noncomputable def lv67 : Nat → List Nat := atL [(0, [1, 3]), (2, [1, 3, 4])]
noncomputable def dr67 : Nat → Dr := atD [(6, ⟨[], line [0, 1, 2, 3, 4, 5, 6, 7, 8, 9, 10, 11]⟩), (11, ⟨[], line [0, 1, 2, 3, 4, 5, 6, 7, 8, 9, 10, 11, 12, 13, 14, 15, 16, 17, 18, 19, 20, 21, 22]⟩)]
theorem ok67 : bodyOk dr67 Try.f67 = true := by kernel_rfl
set_option maxHeartbeats 8000000 in
theorem spec_IsRelation.pr {k : Nat} {a0_0 : Int} {a0_1 : Int} {l0_2 : List (List Int)} {l0_3 : List Bool} {r : (Bool)} {n0 : Nat} {c0 : List AV} {n1 : Nat} (H : spec_IsRelation.f k a0_0 a0_1 l0_2 l0_3 = some r) (hn0 : n0 = l0_2.length := by exact ln) (hc0 : mapR view c0 = iis l0_2 := by exact vw) (hn1 : n1 = l0_3.length := by exact ln) : Promise Try.prog tb 67 [.agg [.int .i64 a0_0, .int .i64 a0_1, .lit n0 c0, .lit n1 (bb l0_3)]] (.bool r) := by
  subst hn0
  subst hn1
  refine Promise.weak (.cons (weak_agg (.cons (Weak.refl _) <| .cons (Weak.refl _) <| .cons (weak_lit hc0) <| .cons (Weak.refl _) <| .nil)) <| .nil) ?_
  have E := @reF _ (fun r : (Bool) => .bool r) r
  refine promise_body tb_ok rfl lv67 dr67 Try.func67 ok67 rfl ?_
  unfold spec_IsRelation.f at H
  replace H := oC H
  obtain ⟨_, C0, H⟩ := H
  refine aA ?_
  refine exV ?_
  refine Exists.intro _ (And.intro (spec_l1In.pr C0) ?_)
  refine brN H ?_ ?_ <;> clear H <;> intro _ H
  ·rcases k with _ | k
   · cases H
   rw [spec_IsRelation.j0] at H
   replace H := oT H
   refine brT ?_
   refine brT ?_
   refine brT ?_
   refine brT ?_
   refine brT ?_
   refine brT ?_
   refine brT ?_
   refine brT ?_
   refine brT ?_
   refine brT ?_
   refine brT ?_
   refine brT ?_
   refine brT ?_
   refine brT ?_
   refine brT ?_
   refine brT ?_
   refine brT ?_
   refine brT ?_
   refine brT ?_
   exact E H
  ·replace H := oC H
   obtain ⟨_, C1, H⟩ := H
   refine brF ?_
   refine exV ?_
   refine brF ?_
   refine Exists.intro _ (And.intro (spec_l1In.pr C1) ?_)
   refine brF ?_
   refine brF ?_
   refine brN H ?_ ?_ <;> clear H <;> intro _ H
   ·rcases k with _ | k
    · cases H
    rw [spec_IsRelation.j0] at H
    replace H := oT H
    refine brT ?_
    refine brT ?_
    refine brT ?_
    refine brT ?_
    refine brT ?_
    refine brT ?_
    refine brT ?_
    refine brT ?_
    refine brT ?_
    refine brT ?_
    refine brT ?_
    refine brT ?_
    refine brT ?_
    refine brT ?_
    exact E H
   ·replace H := oC H
    obtain ⟨_, C2, H⟩ := H
    refine brF ?_
    refine exV ?_
    refine brF ?_
    refine brF ?_
    refine Exists.intro _ (And.intro (spec_l1In.pr C2) ?_)
    refine brF ?_
    refine brF ?_
    refine brN H ?_ ?_ <;> clear H <;> intro _ H
    ·rcases k with _ | k
     · cases H
     rw [spec_IsRelation.j0] at H
     replace H := oT H
     refine brT ?_
     refine brT ?_
     refine brT ?_
     refine brT ?_
     refine brT ?_
     refine brT ?_
     refine brT ?_
     refine brT ?_
     exact E H
    ·rcases k with _ | k
     · cases H
     rw [spec_IsRelation.j0] at H
     refine brF ?_
     refine exV ?_
     refine brF ?_
     refine brF ?_
     refine brF ?_
     refine exV ?_
     refine brF ?_
     refine brF ?_
     refine brF ?_
     refine brI H ?_ ?_ <;> clear H <;> intro _ H
     ·exact E H
     ·refine L5 (fun a3 a479000 a479001 a479002 a479003 => ⟨asl [(1, .ptr 0 0), (3, .int IntKind.i64 a3)], hp [.box 29 [.int IntKind.i64 a479000, .int IntKind.i64 a479001, .lit a479002.length (iis a479002), .lit a479003.length (bb a479003)]]⟩) spec_IsRelation.l0 H (cI [.old 116] [.old 116] [.old 116]) ?_
      clear H
      intro k a3 a479000 a479001 a479002 a479003 L0 hk H hL0
      rw [spec_IsRelation.l0] at H
      refine exV ?_
      refine brI H ?_ ?_ <;> clear H <;> intro _ H
      ·replace H := oA H
       obtain ⟨_, H⟩ := H
       replace H := oC H
       obtain ⟨_, C3, H⟩ := H
       refine exV ?_
       refine aA ?_
       refine exR ?_
       refine exV ?_
       refine exV ?_
       refine Exists.intro _ (And.intro (spec_l13Letters.pr C3) ?_)
       refine brN H ?_ ?_ <;> clear H <;> intro _ H
       ·exact E H
       ·refine L6 (fun b3 b4 b479000 b479001 b479002 b479003 => ⟨asl [(1, .ptr 0 0), (3, .int IntKind.i64 b3), (4, .int IntKind.i64 b4)], hp [.box 29 [.int IntKind.i64 b479000, .int IntKind.i64 b479001, .lit b479002.length (iis b479002), .lit b479003.length (bb b479003)]]⟩) spec_IsRelation.l1 H (cI [.old 0] [.old 0] [.old 0]) ?_
        clear H
        intro k b3 b4 b479000 b479001 b479002 b479003 L1 hk H hL1
        rw [spec_IsRelation.l1] at H
        replace H := oA H
        obtain ⟨_, H⟩ := H
        replace H := oA H
        obtain ⟨_, H⟩ := H
        refine exV ?_
        refine aA ?_
        refine exR ?_
        refine brI H ?_ ?_ <;> clear H <;> intro _ H
        ·replace H := oA H
         obtain ⟨_, H⟩ := H
         refine exV ?_
         refine aA ?_
         refine exR ?_
         refine aA ?_
         refine exI ?_
         refine brI H ?_ ?_ <;> clear H <;> intro _ H
         ·refine brT ?_
          refine brT ?_
          refine brT ?_
          refine brT ?_
          refine brT ?_
          refine brT ?_
          refine brT ?_
          refine brT ?_
          refine brT ?_
          refine brT ?_
          refine brT ?_
          refine brT ?_
          refine brT ?_
          exact E H
         ·refine brF ?_
          refine exV ?_
          refine brF ?_
          refine brF ?_
          refine aA ?_
          refine brF ?_
          refine exR ?_
          refine brF ?_
          refine brF ?_
          refine aA ?_
          refine brF ?_
          refine exI ?_
          refine brF ?_
          refine brF ?_
          refine exV ?_
          refine brF ?_
          refine brF ?_
          refine brF ?_
          refine brI H ?_ ?_ <;> clear H <;> intro _ H
          ·exact E H
          ·exact hL1 _ _ _ _ _ _ _ _ H (by omega) (cI [.old 0] [.old 0] [.old 0])
        ·exact hL0 _ _ _ _ _ _ _ H (by omega) (cI [.old 0] [.old 0] [.old 0])
      ·replace H := oA H
       obtain ⟨_, H⟩ := H
       replace H := oA H
       obtain ⟨_, H⟩ := H
       refine exV ?_
       refine aA ?_
       refine exR (i := 0) ?_
       refine aA ?_
       refine exI (i := 0) ?_
       exact E H
/-! spec_l3Same -/
noncomputable def lv72 : Nat → List Nat := atL [(0, [0, 1, 5])]
noncomputable def dr72 : Nat → Dr := atD [(6, ⟨[], line [0, 1, 2, 3, 4, 5, 6, 7, 8]⟩)]
theorem ok72 : bodyOk dr72 Try.f72 = true := by kernel_rfl
set_option maxHeartbeats 8000000 in
theorem spec_l3Same.pr {k : Nat} {l0 : List Int} {l1 : List Int} {r : (Bool)} {n0 : Nat} {n1 : Nat} (H : spec_l3Same.f k l0 l1 = some r) (hn0 : n0 = l0.length := by exact ln) (hn1 : n1 = l1.length := by exact ln) : Promise Try.prog tb 72 [.lit n0 (ii l0), .lit n1 (ii l1)] (.bool r) := by
  subst hn0
  subst hn1
  have E := @reF _ (fun r : (Bool) => .bool r) r
  refine promise_body tb_ok rfl lv72 dr72 Try.func72 ok72 rfl ?_
  unfold spec_l3Same.f at H
  refine brN H ?_ ?_ <;> clear H <;> intro _ H
  ·exact E H
  ·refine L3 (fun a0 a1 a5 => ⟨asl [(0, .lit a0.length (ii a0)), (1, .lit a1.length (ii a1)), (5, .int IntKind.i64 a5)], hp []⟩) spec_l3Same.l0 H (cI [] [] []) ?_
   clear H
   intro k a0 a1 a5 L0 hk H hL0
   rw [spec_l3Same.l0] at H
   refine brI H ?_ ?_ <;> clear H <;> intro _ H
   ·replace H := oA H
    obtain ⟨_, H⟩ := H
    replace H := oA H
    obtain ⟨_, H⟩ := H
    refine aA ?_
    refine exI ?_
    refine aA ?_
    refine exI ?_
    refine brN H ?_ ?_ <;> clear H <;> intro _ H
    ·exact E H
    ·exact hL0 _ _ _ _ _ H (by omega) (cI [] [] [])
   ·exact E H
/-! spec_l4Number -/
noncomputable def lv102 : Nat → List Nat := atL [(0, [0, 3, 4, 5]), (2, [0, 3, 4, 5, 6, 7])]
noncomputable def dr102 : Nat → Dr := atD [(10, ⟨[], line [0, 1, 2, 3, 4, 5, 6, 7, 8]⟩)]
theorem ok102 : bodyOk dr102 Try.f102 = true := by kernel_rfl
set_option maxHeartbeats 8000000 in
theorem spec_l4Number.pr {k : Nat} {l0 : List (List Int)} {r : (List Int)} {n0 : Nat} {c0 : List AV} (H : spec_l4Number.f k l0 = some r) (hn0 : n0 = l0.length := by exact ln) (hc0 : mapR view c0 = iis l0 := by exact vw) : Promise Try.prog tb 102 [.lit n0 c0] (.own 3 r.length (ii r)) := by
  subst hn0
  refine Promise.weak (.cons (weak_lit hc0) <| .nil) ?_
  have E := @reF _ (fun r : (List Int) => .own 3 r.length (ii r)) r
  refine promise_body tb_ok rfl lv102 dr102 Try.func102 ok102 rfl ?_
  unfold spec_l4Number.f at H
  refine L4 (fun a0 a3 a4 a5 => ⟨asl [(0, .lit a0.length (iis a0)), (3, R 0 a3.length), (4, .int IntKind.i64 a4), (5, .int IntKind.i64 a5)], hp [.row 3 0 false (ii a3)]⟩) spec_l4Number.l0 H (cI [.old 228] [.old 228] [.old 228]) ?_
  clear H
  intro k a0 a3 a4 a5 L0 hk H hL0
  rw [spec_l4Number.l0] at H
  refine brI H ?_ ?_ <;> clear H <;> intro _ H
  ·refine L6 (fun b0 b3 b4 b5 b6 b7 => ⟨asl [(0, .lit b0.length (iis b0)), (3, R 0 b3.length), (4, .int IntKind.i64 b4), (5, .int IntKind.i64 b5), (6, .int IntKind.i64 b6), (7, .int IntKind.i64 b7)], hp [.row 3 0 false (ii b3)]⟩) spec_l4Number.l1 H (cI [.old 0] [.old 0] [.old 0]) ?_
   clear H
   intro k b0 b3 b4 b5 b6 b7 L1 hk H hL1
   rw [spec_l4Number.l1] at H
   refine brI H ?_ ?_ <;> clear H <;> intro _ H
   ·rcases k with _ | k
    · cases H
    rw [spec_l4Number.j2] at H
    refine brT ?_
    refine brT ?_
    refine brI H ?_ ?_ <;> clear H <;> intro _ H
    ·replace H := oA H
     obtain ⟨_, H⟩ := H
     replace H := oA H
     obtain ⟨_, H⟩ := H
     replace H := oA H
     obtain ⟨_, H⟩ := H
     replace H := oA H
     obtain ⟨_, H⟩ := H
     replace H := oC H
     obtain ⟨_, C0, H⟩ := H
     refine aA ?_
     refine exR ?_
     refine aA ?_
     refine exR ?_
     refine Exists.intro _ (And.intro (spec_l3Same.pr C0) ?_)
     refine brI H ?_ ?_ <;> clear H <;> intro _ H
     ·replace H := oA H
      obtain ⟨_, H⟩ := H
      refine aA ?_
      refine exI ?_
      exact hL1 _ _ _ _ _ _ _ _ H (by omega) (cI [.old 0] [.old 0] [.old 0])
     ·exact hL1 _ _ _ _ _ _ _ _ H (by omega) (cI [.old 0] [.old 0] [.old 0])
    ·refine brI H ?_ ?_ <;> clear H <;> intro _ H
     ·replace H := oA H
      obtain ⟨_, H⟩ := H
      refine aA ?_
      refine aA ?_
      refine apI ?_
      exact hL0 _ _ _ _ _ _ H (by omega) (cI [.old 0] [.old 0] [.old 0])
     ·replace H := oA H
      obtain ⟨_, H⟩ := H
      refine aA ?_
      refine aA ?_
      refine apI ?_
      exact hL0 _ _ _ _ _ _ H (by omega) (cI [.old 0] [.old 0] [.old 0])
   ·rcases k with _ | k
    · cases H
    rw [spec_l4Number.j2] at H
    replace H := oF H
    refine brF ?_
    refine brF ?_
    refine brF ?_
    refine brI H ?_ ?_ <;> clear H <;> intro _ H
    ·replace H := oA H
     obtain ⟨_, H⟩ := H
     refine aA ?_
     refine aA ?_
     refine apI ?_
     exact hL0 _ _ _ _ _ _ H (by omega) (cI [.old 0] [.old 0] [.old 0])
    ·replace H := oA H
     obtain ⟨_, H⟩ := H
     refine aA ?_
     refine aA ?_
     refine apI ?_
     exact hL0 _ _ _ _ _ _ H (by omega) (cI [.old 0] [.old 0] [.old 0])
  ·exact E H
end Go.Ev
