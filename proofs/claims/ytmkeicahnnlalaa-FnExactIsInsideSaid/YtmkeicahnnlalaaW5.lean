/- Walks of functions with the plain evaluator: what each computes -/
import Derived.Test.YtmkeicahnnlalaaEh
import Derived.Test.YtmkeicahnnlalaaEp
import Derived.Test.YtmkeicahnnlalaaW4
namespace Go.Ev
open Go.Proofs Go Go.Proofs.YtmkeicahnnlalaaW.PrintWords Go.Proofs.Ytmkeicahnnlalaa.Q
set_option maxRecDepth 100000
set_option linter.unusedVariables false
attribute [local irreducible] br Loop
/-! impl_Relation_reduced -/
noncomputable def lv91 : Nat → List Nat := atL [(0, [1, 2, 3, 13, 14, 15]), (2, [2, 8, 38, 39, 40])]
noncomputable def dr91 : Nat → Dr := atD []
theorem ok91 : bodyOk dr91 Try.f91 = true := by kernel_rfl
set_option maxHeartbeats 8000000 in
theorem impl_Relation_reduced.pr {k : Nat} {a0_0 : Int} {a0_1 : Int} {l0_2 : List (List Int)} {l0_3 : List Bool} {r : (Int × Int × (List (List Int)) × List Bool)} {n0 : Nat} {c0 : List AV} {n1 : Nat} (H : impl_Relation_reduced.f k a0_0 a0_1 l0_2 l0_3 = some r) (hn0 : n0 = l0_2.length := by exact ln) (hc0 : mapR view c0 = iis l0_2 := by exact vw) (hn1 : n1 = l0_3.length := by exact ln) : Promise Try.prog tb 91 [.agg [.int .i64 a0_0, .int .i64 a0_1, .lit n0 c0, .lit n1 (bb l0_3)]] (.agg [.int .i64 r.1, .int .i64 r.2.1, .own 23 r.2.2.1.length (ois 3 r.2.2.1), .own 4 r.2.2.2.length (bb r.2.2.2)]) := by
  subst hn0
  subst hn1
  refine Promise.weak (.cons (weak_agg (.cons (Weak.refl _) <| .cons (Weak.refl _) <| .cons (weak_lit hc0) <| .cons (Weak.refl _) <| .nil)) <| .nil) ?_
  have E := @reF _ (fun r : (Int × Int × (List (List Int)) × List Bool) => .agg [.int .i64 r.1, .int .i64 r.2.1, .own 23 r.2.2.1.length (ois 3 r.2.2.1), .own 4 r.2.2.2.length (bb r.2.2.2)]) r
  refine promise_body tb_ok rfl lv91 dr91 Try.func91 ok91 rfl ?_
  unfold impl_Relation_reduced.f at H
  refine aA ?_
  refine exV ?_
  refine L8 (fun a3 a13 a14 a15 a658000 a658001 a658002 a658003 => ⟨asl [(1, .ptr 0 0), (2, .ptr 1 0), (3, R 2 a3.length), (13, .lit a13.length (bb a13)), (14, .int IntKind.i64 a14), (15, .int IntKind.i64 a15)], hp [.box 29 [.int IntKind.i64 a658000, .int IntKind.i64 a658001, .lit a658002.length (iis a658002), .lit a658003.length (bb a658003)], .box 29 [.int IntKind.i64 0, .int IntKind.i64 0, R 3 0, R 4 0], .row 3 0 false (ii a3), .row 23 0 false [], .row 4 0 false []]⟩) impl_Relation_reduced.l0 H (cI [.old 116, .old 132, .old 276] [.old 116, .old 132, .old 276, .nilB 132 2, .nilB 132 3] [.old 116, .old 132, .old 276, .nilB 132 2, .nilB 132 3]) ?_
  clear H
  intro k a3 a13 a14 a15 a658000 a658001 a658002 a658003 L0 hk H hL0
  rw [impl_Relation_reduced.l0] at H
  refine brI H ?_ ?_ <;> clear H <;> intro _ H
  ·replace H := oA H
   obtain ⟨_, H⟩ := H
   replace H := oA H
   obtain ⟨_, H⟩ := H
   replace H := oC H
   obtain ⟨_, C0, H⟩ := H
   replace H := oA H
   obtain ⟨_, H⟩ := H
   refine aA ?_
   refine exB ?_
   refine Exists.intro _ (And.intro (impl_oneIf.pr C0) ?_)
   refine aA ?_
   refine aA ?_
   refine apI ?_
   exact hL0 _ _ _ _ _ _ _ _ _ _ H (by omega) (cI [.old 0, .old 1, .old 2] [.old 0, .old 1, .old 2, .old 3, .old 4] [.old 0, .old 1, .old 2, .old 3, .old 4])
  ·replace H := oC H
   obtain ⟨_, C0, H⟩ := H
   refine exV ?_
   refine Exists.intro _ (And.intro (impl_minimal.pr C0) ?_)
   refine exV ?_
   refine exV ?_
   refine exV ?_
   refine exV ?_
   refine aA ?_
   refine L7 (fun b38 b39 b40 b674000 b674001 b674002 b674003 => ⟨asl [(2, .ptr 0 0), (8, .ptr 1 0), (38, R 2 b38.length), (39, .int IntKind.i64 b39), (40, .int IntKind.i64 b40)], hp [.box 29 [.int IntKind.i64 0, .int IntKind.i64 0, R 3 0, R 4 0], .box 29 [.int IntKind.i64 b674000, .int IntKind.i64 b674001, R 5 b674002.length, R 6 b674003.length], .row 3 0 false (ii b38), .row 23 0 false [], .row 4 0 false [], .row 23 0 false (ois 3 b674002), .row 4 0 false (bb b674003)]⟩) impl_Relation_reduced.l1 H (cI [.old 1, .old 228, .old 569] [.old 1, .old 228, .old 569, .old 3, .old 4, .old 564, .nilB 228 3] [.old 1, .old 228, .old 569, .old 3, .old 4, .old 564, .nilB 228 3]) ?_
   clear H
   intro k b38 b39 b40 b674000 b674001 b674002 b674003 L1 hk H hL1
   rw [impl_Relation_reduced.l1] at H
   refine brI H ?_ ?_ <;> clear H <;> intro _ H
   ·replace H := oA H
    obtain ⟨_, H⟩ := H
    replace H := oA H
    obtain ⟨_, H⟩ := H
    replace H := oA H
    obtain ⟨_, H⟩ := H
    refine aA ?_
    refine exI ?_
    refine exV ?_
    refine aA ?_
    refine aA ?_
    refine apB ?_
    refine aA ?_
    exact hL1 _ _ _ _ _ _ _ _ _ H (by omega) (cI [.old 0, .old 1, .old 2] [.old 0, .old 1, .old 2, .old 3, .old 4, .old 5, .old 6] [.old 0, .old 1, .old 2, .old 3, .old 4, .old 5, .old 6])
   ·refine leE ?_
    refine aA ?_
    refine aA ?_
    refine leE ?_
    refine aA ?_
    exact E H
/-! impl_Relation_limited -/
noncomputable def lv78 : Nat → List Nat := atL []
noncomputable def dr78 : Nat → Dr := atD []
theorem ok78 : bodyOk dr78 Try.f78 = true := by kernel_rfl
set_option maxHeartbeats 8000000 in
theorem impl_Relation_limited.pr {k : Nat} {a0_0 : Int} {a0_1 : Int} {l0_2 : List (List Int)} {l0_3 : List Bool} {r : (Int × Int × (List (List Int)) × List Bool × Bool)} {n0 : Nat} {c0 : List AV} {n1 : Nat} (H : impl_Relation_limited.f k a0_0 a0_1 l0_2 l0_3 = some r) (hn0 : n0 = l0_2.length := by exact ln) (hc0 : mapR view c0 = iis l0_2 := by exact vw) (hn1 : n1 = l0_3.length := by exact ln) : Promise Try.prog tb 78 [.agg [.int .i64 a0_0, .int .i64 a0_1, .lit n0 c0, .lit n1 (bb l0_3)]] (.tup [.agg [.int .i64 r.1, .int .i64 r.2.1, .own 23 r.2.2.1.length (ois 3 r.2.2.1), .own 4 r.2.2.2.1.length (bb r.2.2.2.1)], .bool r.2.2.2.2]) := by
  subst hn0
  subst hn1
  refine Promise.weak (.cons (weak_agg (.cons (Weak.refl _) <| .cons (Weak.refl _) <| .cons (weak_lit hc0) <| .cons (Weak.refl _) <| .nil)) <| .nil) ?_
  have E := @reF _ (fun r : (Int × Int × (List (List Int)) × List Bool × Bool) => .tup [.agg [.int .i64 r.1, .int .i64 r.2.1, .own 23 r.2.2.1.length (ois 3 r.2.2.1), .own 4 r.2.2.2.1.length (bb r.2.2.2.1)], .bool r.2.2.2.2]) r
  refine promise_body tb_ok rfl lv78 dr78 Try.func78 ok78 rfl ?_
  unfold impl_Relation_limited.f at H
  replace H := oC H
  obtain ⟨_, C0, H⟩ := H
  refine aA ?_
  refine leE ?_
  refine aA ?_
  refine Exists.intro _ (And.intro (impl_Relation_reduced.pr C0) ?_)
  refine aA ?_
  refine exV ?_
  refine brI H ?_ ?_ <;> clear H <;> intro _ H
  ·refine aA ?_
   refine leE ?_
   refine aA ?_
   exact E H
  ·refine leE ?_
   refine aA ?_
   refine aA ?_
   refine leE ?_
   refine aA ?_
   exact E H
/-! impl_combined_1 -/
noncomputable def lv87 : Nat → List Nat := atL []
noncomputable def dr87 : Nat → Dr := atD [(1, ⟨[], line [0, 1, 2, 3, 4, 5, 6, 7, 8, 9, 10, 11, 12, 13, 14, 15, 16, 17, 18, 19]⟩)]
theorem ok87 : bodyOk dr87 Try.f87 = true := by kernel_rfl
set_option maxHeartbeats 8000000 in
theorem impl_combined_1.pr {na nb : List (List Int)} {xa xb : List Bool} {p0 p1 p2 p3 a0 a1 a2 : Int} {r : Int × Int} (H : impl_combined_1.f na nb a0 a1 a2 = some r) : Promise Try.prog tb 87 [.agg [.int .i64 a0, .int .i64 a1], .int .i64 a2, .tptr [.int .i64 p0, .int .i64 p1, .lit na.length (iis na), .lit xa.length (bb xa)] 0, .tptr [.int .i64 p2, .int .i64 p3, .lit nb.length (iis nb), .lit xb.length (bb xb)] 0] (.agg [.int .i64 r.1, .int .i64 r.2]) := by
  have E := @reF _ (fun r : Int × Int => .agg [.int .i64 r.1, .int .i64 r.2]) r
  refine promise_body tb_ok rfl lv87 dr87 Try.func87 ok87 rfl ?_
  unfold impl_combined_1.f at H
  replace H := oA H
  obtain ⟨_, H⟩ := H
  replace H := oA H
  obtain ⟨_, H⟩ := H
  replace H := oA H
  obtain ⟨_, H⟩ := H
  replace H := oA H
  obtain ⟨_, H⟩ := H
  replace H := oA H
  obtain ⟨_, H⟩ := H
  replace H := oA H
  obtain ⟨_, H⟩ := H
  replace H := oA H
  obtain ⟨_, H⟩ := H
  refine aA ?_
  refine exV ?_
  refine aA ?_
  refine exV ?_
  refine aA ?_
  refine exR ?_
  refine aA ?_
  refine exI ?_
  refine exV ?_
  refine aA ?_
  refine exV ?_
  refine aA ?_
  refine exR ?_
  refine aA ?_
  refine exI ?_
  refine aA ?_
  refine leE ?_
  refine aA ?_
  exact E H
/-! impl_pairs -/
noncomputable def lv86 : Nat → List Nat := atL [(0, [1, 2, 3, 11, 12, 13, 14]), (2, [1, 2, 3, 11, 12, 13, 14, 15, 33, 34])]
noncomputable def dr86 : Nat → Dr := atD []
theorem ok86 : bodyOk dr86 Try.f86 = true := by kernel_rfl
set_option maxHeartbeats 8000000 in
theorem impl_pairs.pr {k : Nat} {na nb : List (List Int)} {xa xb : List Bool} {p0 p1 q0 q1 a0 a1 a2 a3 : Int} {r : List (Int × Int) × List (List Int) × Bool} (H : impl_pairs.f k na nb a0 a1 a2 a3 = some r) : Promise Try.prog tb 86 [.agg [.int .i64 a0, .int .i64 a1], .int .i64 a2, .int .i64 a3, .fn 87 [.tptr [.int .i64 p0, .int .i64 p1, .lit na.length (iis na), .lit xa.length (bb xa)] 0, .tptr [.int .i64 q0, .int .i64 q1, .lit nb.length (iis nb), .lit xb.length (bb xb)] 0]] (.tup [.own 96 r.1.length (p2 r.1), .own 23 r.2.1.length (ois 3 r.2.1), .bool r.2.2]) := by
  have E := @reF _ (fun r : List (Int × Int) × List (List Int) × Bool => .tup [.own 96 r.1.length (p2 r.1), .own 23 r.2.1.length (ois 3 r.2.1), .bool r.2.2]) r
  refine promise_body tb_ok rfl lv86 dr86 Try.func86 ok86 rfl ?_
  unfold impl_pairs.f at H
  replace H := oA H
  obtain ⟨_, H⟩ := H
  replace H := oA H
  obtain ⟨_, H⟩ := H
  refine aA ?_
  refine leE ?_
  refine aA ?_
  refine leE ?_
  refine aA ?_
  refine And.intro (And.intro (keyP (by assumption) (by assumption) rfl rfl) rfl) ?_
  refine exFe ?_
  refine upE ?_
  refine L7 (fun a901 a902 a1 a2 a11 a13 a14 => ⟨asl [(1, .int IntKind.i64 a1), (2, .int IntKind.i64 a2), (3, .fn 87 [(AV.tptr [AV.int IntKind.i64 p0, AV.int IntKind.i64 p1, AV.lit (List.length a901) (iis a901), AV.lit (List.length xa) (bb xa)] 0), (AV.tptr [AV.int IntKind.i64 q0, AV.int IntKind.i64 q1, AV.lit (List.length a902) (iis a902), AV.lit (List.length xb) (bb xb)] 0)]), (11, R 0 a11.length), (12, .map 1), (13, R 2 a13.length), (14, .int IntKind.i64 a14)], hp [.row 96 0 false (p2 a11), .mp 115 (mpP a11), .row 23 0 false (ois 3 a13)]⟩) impl_pairs.l0 H (cI [.old 436, .old 452, .old 500] [.old 436, .old 452, .old 500] [.old 436, .old 452, .old 500]) ?_
  clear H
  intro k a901 a902 a1 a2 a11 a13 a14 L0 hk H hL0
  rw [impl_pairs.l0] at H
  refine brI H ?_ ?_ <;> clear H <;> intro _ H
  ·refine L10 (fun b901 b902 b1 b2 b11 b13 b14 b15 b33 b34 => ⟨asl [(1, .int IntKind.i64 b1), (2, .int IntKind.i64 b2), (3, .fn 87 [(AV.tptr [AV.int IntKind.i64 p0, AV.int IntKind.i64 p1, AV.lit (List.length b901) (iis b901), AV.lit (List.length xa) (bb xa)] 0), (AV.tptr [AV.int IntKind.i64 q0, AV.int IntKind.i64 q1, AV.lit (List.length b902) (iis b902), AV.lit (List.length xb) (bb xb)] 0)]), (11, R 0 b11.length), (12, .map 1), (13, R 2 b13.length), (14, .int IntKind.i64 b14), (15, R 3 b15.length), (33, .int IntKind.i64 b33), (34, .int IntKind.i64 b34)], hp [.row 96 0 false (p2 b11), .mp 115 (mpP b11), .row 23 0 false (ois 3 b13), .row 3 0 false (ii b15)]⟩) impl_pairs.l1 H (cI [.old 0, .old 1, .old 2, .old 612] [.old 0, .old 1, .old 2, .old 612] [.old 0, .old 1, .old 2, .old 612]) ?_
   clear H
   intro k b901 b902 b1 b2 b11 b13 b14 b15 b33 b34 L1 hk H hL1
   rw [impl_pairs.l1] at H
   refine brI H ?_ ?_ <;> clear H <;> intro _ H
   ·replace H := oA H
    obtain ⟨_, H⟩ := H
    replace H := oA H
    obtain ⟨_, H⟩ := H
    replace H := oC H
    obtain ⟨_, C0, H⟩ := H
    replace H := oA H
    obtain ⟨_, H⟩ := H
    replace H := oA H
    obtain ⟨_, H⟩ := H
    replace H := oA H
    obtain ⟨_, H⟩ := H
    refine aA ?_
    refine exP ?_
    refine Exists.intro _ (And.intro (impl_combined_1.pr C0) ?_)
    refine aA ?_
    refine leE ?_
    refine aA ?_
    refine And.intro (keyP (by assumption) (by assumption) rfl rfl) ?_
    refine exF H ?_ ?_ <;> clear H <;> intro _ H
    ·refine exV ?_
     refine exV ?_
     refine brF ?_
     refine leE ?_
     refine aA ?_
     refine And.intro (keyP (by assumption) (by assumption) rfl rfl) ?_
     refine exF1 (by assumption) ?_
     refine aA ?_
     refine aA ?_
     refine apI ?_
     exact hL1 _ _ _ _ _ _ _ _ _ _ _ _ H (by omega) (cI [.old 0, .old 1, .old 2, .old 3] [.old 0, .old 1, .old 2, .old 3] [.old 0, .old 1, .old 2, .old 3])
    ·replace H := oA H
     obtain ⟨_, H⟩ := H
     refine exV ?_
     refine exV ?_
     refine brT ?_
     refine leE ?_
     refine aA ?_
     refine And.intro (And.intro (keyP (by assumption) (by assumption) rfl rfl) rfl) ?_
     refine exF0 (by assumption) ?_
     refine upN ?_
     refine leE ?_
     refine aA ?_
     refine aA ?_
     refine apP ?_
     refine leE ?_
     refine aA ?_
     refine And.intro (keyP (by assumption) (by assumption) rfl rfl) ?_
     refine exFn (by assumption) ?_
     refine aA ?_
     refine aA ?_
     refine apI ?_
     exact hL1 _ _ _ _ _ _ _ _ _ _ _ _ H (by omega) (cI [.old 0, .old 1, .old 2, .old 3] [.old 0, .old 1, .old 2, .old 3] [.old 0, .old 1, .old 2, .old 3])
   ·replace H := oA H
    obtain ⟨_, H⟩ := H
    refine aA ?_
    refine apO ?_
    refine brI H ?_ ?_ <;> clear H <;> intro _ H
    ·exact E H
    ·exact hL0 _ _ _ _ _ _ _ _ _ H (by omega) (cI [.old 0, .old 1, .old 2] [.old 0, .old 1, .old 2] [.old 0, .old 1, .old 2])
  ·exact E H
end Go.Ev
