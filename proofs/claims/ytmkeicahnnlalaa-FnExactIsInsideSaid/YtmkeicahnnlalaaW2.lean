/- Walks of functions with the plain evaluator: what each computes -/
import Derived.Test.YtmkeicahnnlalaaEh
import Derived.Test.YtmkeicahnnlalaaEp
import Derived.Test.YtmkeicahnnlalaaW0
import Derived.Test.YtmkeicahnnlalaaW1
namespace Go.Ev
open Go.Proofs Go Go.Proofs.YtmkeicahnnlalaaW.PrintWords Go.Proofs.Ytmkeicahnnlalaa.Q
set_option maxRecDepth 100000
set_option linter.unusedVariables false
attribute [local irreducible] br Loop
/-! spec_l14Both -/
noncomputable def lv54 : Nat → List Nat := atL [(0, [2, 3, 4, 6, 8, 9, 10, 11, 12]), (2, [2, 3, 4, 6, 8, 9, 10, 11, 12, 13, 14, 15, 16])]
noncomputable def dr54 : Nat → Dr := atD [(11, ⟨[], line [0, 1, 2, 3, 4, 5, 6, 7, 8]⟩), (12, ⟨[], line [0, 1, 2, 3, 4, 5, 6, 7, 8]⟩), (17, ⟨[], line [0, 1, 2, 3, 4, 5, 6, 7, 8, 9, 10, 11, 12, 13, 14, 15, 16, 17, 18, 19, 20, 21]⟩)]
theorem ok54 : bodyOk dr54 Try.f54 = true := by kernel_rfl
set_option maxHeartbeats 8000000 in
theorem spec_l14Both.pr {k : Nat} {a0_0 : Int} {a0_1 : Int} {l0_2 : List (List Int)} {l0_3 : List Bool} {a1_0 : Int} {a1_1 : Int} {l1_2 : List (List Int)} {l1_3 : List Bool} {a2 : Bool} {r : (Int × Int × (List (List Int)) × List Bool × Bool)} {n0 : Nat} {c0 : List AV} {n1 : Nat} {n2 : Nat} {c2 : List AV} {n3 : Nat} (H : spec_l14Both.f k a0_0 a0_1 l0_2 l0_3 a1_0 a1_1 l1_2 l1_3 a2 = some r) (hn0 : n0 = l0_2.length := by exact ln) (hc0 : mapR view c0 = iis l0_2 := by exact vw) (hn1 : n1 = l0_3.length := by exact ln) (hn2 : n2 = l1_2.length := by exact ln) (hc2 : mapR view c2 = iis l1_2 := by exact vw) (hn3 : n3 = l1_3.length := by exact ln) : Promise Try.prog tb 54 [.agg [.int .i64 a0_0, .int .i64 a0_1, .lit n0 c0, .lit n1 (bb l0_3)], .agg [.int .i64 a1_0, .int .i64 a1_1, .lit n2 c2, .lit n3 (bb l1_3)], .bool a2] (.tup [.agg [.int .i64 r.1, .int .i64 r.2.1, .own 23 r.2.2.1.length (ois 3 r.2.2.1), .own 4 r.2.2.2.1.length (bb r.2.2.2.1)], .bool r.2.2.2.2]) := by
  subst hn0
  subst hn1
  subst hn2
  subst hn3
  refine Promise.weak (.cons (weak_agg (.cons (Weak.refl _) <| .cons (Weak.refl _) <| .cons (weak_lit hc0) <| .cons (Weak.refl _) <| .nil)) <| .cons (weak_agg (.cons (Weak.refl _) <| .cons (Weak.refl _) <| .cons (weak_lit hc2) <| .cons (Weak.refl _) <| .nil)) <| .cons (Weak.refl _) <| .nil) ?_
  have E := @reF _ (fun r : (Int × Int × (List (List Int)) × List Bool × Bool) => .tup [.agg [.int .i64 r.1, .int .i64 r.2.1, .own 23 r.2.2.1.length (ois 3 r.2.2.1), .own 4 r.2.2.2.1.length (bb r.2.2.2.1)], .bool r.2.2.2.2]) r
  refine promise_body tb_ok rfl lv54 dr54 Try.func54 ok54 rfl ?_
  unfold spec_l14Both.f at H
  replace H := oC H
  obtain ⟨_, C0, H⟩ := H
  refine aA ?_
  refine aA ?_
  refine leE ?_
  refine aA ?_
  refine Exists.intro _ (And.intro (spec_IsRelation.pr C0) ?_)
  refine brN H ?_ ?_ <;> clear H <;> intro _ H
  ·rcases k with _ | k
   · cases H
   rw [spec_l14Both.j0] at H
   replace H := oT H
   refine brT ?_
   refine brT ?_
   refine brT ?_
   refine brT ?_
   refine brT ?_
   refine brT ?_
   refine brT ?_
   refine brT ?_
   refine brT ?_
   refine brT ?_
   refine brT ?_
   refine brT ?_
   refine brT ?_
   refine brT ?_
   refine brT ?_
   refine brT ?_
   refine aA ?_
   refine leE ?_
   refine aA ?_
   exact E H
  ·replace H := oC H
   obtain ⟨_, C1, H⟩ := H
   refine leE ?_
   refine aA ?_
   refine brF ?_
   refine Exists.intro _ (And.intro (spec_IsRelation.pr C1) ?_)
   refine brF ?_
   refine brF ?_
   refine brN H ?_ ?_ <;> clear H <;> intro _ H
   ·rcases k with _ | k
    · cases H
    rw [spec_l14Both.j0] at H
    replace H := oT H
    refine brT ?_
    refine brT ?_
    refine brT ?_
    refine brT ?_
    refine brT ?_
    refine brT ?_
    refine brT ?_
    refine brT ?_
    refine brT ?_
    refine brT ?_
    refine brT ?_
    refine brT ?_
    refine aA ?_
    refine leE ?_
    refine aA ?_
    exact E H
   ·refine brF ?_
    refine exV ?_
    refine brF ?_
    refine brF ?_
    refine exV ?_
    refine brF ?_
    refine brF ?_
    refine brN H ?_ ?_ <;> clear H <;> intro _ H
    ·rcases k with _ | k
     · cases H
     rw [spec_l14Both.j0] at H
     replace H := oT H
     refine brT ?_
     refine brT ?_
     refine brT ?_
     refine brT ?_
     refine brT ?_
     refine brT ?_
     refine aA ?_
     refine leE ?_
     refine aA ?_
     exact E H
    ·rcases k with _ | k
     · cases H
     rw [spec_l14Both.j0] at H
     refine brF ?_
     refine exV ?_
     refine brF ?_
     refine brF ?_
     refine exV ?_
     refine brF ?_
     refine brF ?_
     refine brI H ?_ ?_ <;> clear H <;> intro _ H
     ·refine aA ?_
      refine leE ?_
      refine aA ?_
      exact E H
     ·replace H := oA H
      obtain ⟨_, H⟩ := H
      replace H := oA H
      obtain ⟨_, H⟩ := H
      replace H := oD H
      replace H := oA H
      obtain ⟨_, H⟩ := H
      refine exV ?_
      refine exV ?_
      refine aA ?_
      refine aA ?_
      refine mkI ?_
      refine aA ?_
      refine aA ?_
      refine seI ?_
      refine L14 (fun a2 a8 a9 a10 a11 a12 a204000 a204001 a204002 a204003 a205000 a205001 a205002 a205003 => ⟨asl [(2, .bool a2), (3, .ptr 0 0), (4, .ptr 1 0), (6, .ptr 2 0), (8, R 3 a8.length), (9, R 4 a9.length), (10, R 5 a10.length), (11, R 6 a11.length), (12, .int IntKind.i64 a12)], hp [.box 29 [.int IntKind.i64 a204000, .int IntKind.i64 a204001, .lit a204002.length (iis a204002), .lit a204003.length (bb a204003)], .box 29 [.int IntKind.i64 a205000, .int IntKind.i64 a205001, .lit a205002.length (iis a205002), .lit a205003.length (bb a205003)], .box 29 [.int IntKind.i64 0, .int IntKind.i64 0, R 7 0, R 8 0], .row 23 0 false (ois 3 a8), .row 4 0 false (bb a9), .row 3 0 false (ii a10), .row 3 0 false (ii a11), .row 23 0 false [], .row 4 0 false []]⟩) spec_l14Both.l0 H (cI [.old 148, .old 164, .old 196, .old 772, .old 788, .old 916, .old 932] [.old 148, .old 164, .old 196, .old 772, .old 788, .old 916, .old 932, .nilB 196 2, .nilB 196 3] [.old 148, .old 164, .old 196, .old 772, .old 788, .old 916, .old 932, .nilB 196 2, .nilB 196 3]) ?_
      clear H
      intro k a2 a8 a9 a10 a11 a12 a204000 a204001 a204002 a204003 a205000 a205001 a205002 a205003 L0 hk H hL0
      rw [spec_l14Both.l0] at H
      refine brI H ?_ ?_ <;> clear H <;> intro _ H
      ·replace H := oA H
       obtain ⟨_, H⟩ := H
       replace H := oB H
       obtain ⟨_, H⟩ := H
       refine aA ?_
       refine exI ?_
       refine exV ?_
       refine aA ?_
       refine aA ?_
       refine exI ?_
       refine exV ?_
       refine aA ?_
       refine L18 (fun b2 b8 b9 b10 b11 b12 b13 b14 b15 b16 b204000 b204001 b204002 b204003 b205000 b205001 b205002 b205003 => ⟨asl [(2, .bool b2), (3, .ptr 0 0), (4, .ptr 1 0), (6, .ptr 2 0), (8, R 3 b8.length), (9, R 4 b9.length), (10, R 5 b10.length), (11, R 6 b11.length), (12, .int IntKind.i64 b12), (13, .int IntKind.i64 b13), (14, .int IntKind.i64 b14), (15, R 7 b15.length), (16, .int IntKind.i64 b16)], hp [.box 29 [.int IntKind.i64 b204000, .int IntKind.i64 b204001, .lit b204002.length (iis b204002), .lit b204003.length (bb b204003)], .box 29 [.int IntKind.i64 b205000, .int IntKind.i64 b205001, .lit b205002.length (iis b205002), .lit b205003.length (bb b205003)], .box 29 [.int IntKind.i64 0, .int IntKind.i64 0, R 8 0, R 9 0], .row 23 0 false (ois 3 b8), .row 4 0 false (bb b9), .row 3 0 false (ii b10), .row 3 0 false (ii b11), .row 3 0 false (ii b15), .row 23 0 false [], .row 4 0 false []]⟩) spec_l14Both.l1 H (cI [.old 0, .old 1, .old 2, .old 3, .old 4, .old 5, .old 6, .old 1332] [.old 0, .old 1, .old 2, .old 3, .old 4, .old 5, .old 6, .old 1332, .old 7, .old 8] [.old 0, .old 1, .old 2, .old 3, .old 4, .old 5, .old 6, .old 1332, .old 7, .old 8]) ?_
       clear H
       intro k b2 b8 b9 b10 b11 b12 b13 b14 b15 b16 b204000 b204001 b204002 b204003 b205000 b205001 b205002 b205003 L1 hk H hL1
       rw [spec_l14Both.l1] at H
       replace H := oA H
       obtain ⟨_, H⟩ := H
       replace H := oA H
       obtain ⟨_, H⟩ := H
       refine exV ?_
       refine aA ?_
       refine exR ?_
       refine brI H ?_ ?_ <;> clear H <;> intro _ H
       ·replace H := oA H
        obtain ⟨_, H⟩ := H
        replace H := oA H
        obtain ⟨_, H⟩ := H
        replace H := oA H
        obtain ⟨_, H⟩ := H
        replace H := oA H
        obtain ⟨_, H⟩ := H
        replace H := oA H
        obtain ⟨_, H⟩ := H
        replace H := oA H
        obtain ⟨_, H⟩ := H
        refine exV ?_
        refine aA ?_
        refine exR ?_
        refine aA ?_
        refine exI ?_
        refine exV ?_
        refine exV ?_
        refine aA ?_
        refine exR ?_
        refine aA ?_
        refine exI ?_
        refine aA ?_
        refine exI ?_
        refine brI H ?_ ?_ <;> clear H <;> intro _ H
        ·replace H := oA H
         obtain ⟨_, H⟩ := H
         replace H := oD H
         replace H := oD H
         replace H := oA H
         obtain ⟨_, H⟩ := H
         refine aA ?_
         refine aA ?_
         refine apI ?_
         refine aA ?_
         refine aA ?_
         refine seI ?_
         refine aA ?_
         refine exI ?_
         refine aA ?_
         refine aA ?_
         refine apI ?_
         exact hL1 _ _ _ _ _ _ _ _ _ _ _ _ _ _ _ _ _ _ _ _ H (by omega) (cI [.old 0, .old 1, .old 2, .old 3, .old 4, .old 5, .old 6, .old 7] [.old 0, .old 1, .old 2, .old 3, .old 4, .old 5, .old 6, .old 7, .old 8, .old 9] [.old 0, .old 1, .old 2, .old 3, .old 4, .old 5, .old 6, .old 7, .old 8, .old 9])
        ·replace H := oA H
         obtain ⟨_, H⟩ := H
         refine aA ?_
         refine exI ?_
         refine aA ?_
         refine aA ?_
         refine apI ?_
         exact hL1 _ _ _ _ _ _ _ _ _ _ _ _ _ _ _ _ _ _ _ _ H (by omega) (cI [.old 0, .old 1, .old 2, .old 3, .old 4, .old 5, .old 6, .old 7] [.old 0, .old 1, .old 2, .old 3, .old 4, .old 5, .old 6, .old 7, .old 8, .old 9] [.old 0, .old 1, .old 2, .old 3, .old 4, .old 5, .old 6, .old 7, .old 8, .old 9])
       ·replace H := oA H
        obtain ⟨_, H⟩ := H
        replace H := oD H
        refine aA ?_
        refine apO ?_
        refine brI H ?_ ?_ <;> clear H <;> intro _ H
        ·replace H := oA H
         obtain ⟨_, H⟩ := H
         refine exV ?_
         refine aA ?_
         refine exB ?_
         refine brI H ?_ ?_ <;> clear H <;> intro _ H
         ·replace H := oA H
          obtain ⟨_, H⟩ := H
          refine brT ?_
          refine brT ?_
          refine brT ?_
          refine brT ?_
          refine brT ?_
          refine aA ?_
          refine aA ?_
          refine apB ?_
          exact hL0 _ _ _ _ _ _ _ _ _ _ _ _ _ _ _ _ H (by omega) (cI [.old 0, .old 1, .old 2, .old 3, .old 4, .old 5, .old 6] [.old 0, .old 1, .old 2, .old 3, .old 4, .old 5, .old 6, .old 8, .old 9] [.old 0, .old 1, .old 2, .old 3, .old 4, .old 5, .old 6, .old 8, .old 9])
         ·replace H := oA H
          obtain ⟨_, H⟩ := H
          replace H := oA H
          obtain ⟨_, H⟩ := H
          replace H := oA H
          obtain ⟨_, H⟩ := H
          refine brF ?_
          refine exV ?_
          refine brF ?_
          refine brF ?_
          refine aA ?_
          refine brF ?_
          refine exB ?_
          refine brF ?_
          refine aA ?_
          refine aA ?_
          refine apB ?_
          exact hL0 _ _ _ _ _ _ _ _ _ _ _ _ _ _ _ _ H (by omega) (cI [.old 0, .old 1, .old 2, .old 3, .old 4, .old 5, .old 6] [.old 0, .old 1, .old 2, .old 3, .old 4, .old 5, .old 6, .old 8, .old 9] [.old 0, .old 1, .old 2, .old 3, .old 4, .old 5, .old 6, .old 8, .old 9])
        ·replace H := oA H
         obtain ⟨_, H⟩ := H
         refine exV ?_
         refine aA ?_
         refine exB ?_
         refine brI H ?_ ?_ <;> clear H <;> intro _ H
         ·replace H := oA H
          obtain ⟨_, H⟩ := H
          replace H := oA H
          obtain ⟨_, H⟩ := H
          replace H := oA H
          obtain ⟨_, H⟩ := H
          refine brT ?_
          refine exV ?_
          refine brT ?_
          refine brT ?_
          refine aA ?_
          refine brT ?_
          refine exB ?_
          refine brT ?_
          refine aA ?_
          refine aA ?_
          refine apB ?_
          exact hL0 _ _ _ _ _ _ _ _ _ _ _ _ _ _ _ _ H (by omega) (cI [.old 0, .old 1, .old 2, .old 3, .old 4, .old 5, .old 6] [.old 0, .old 1, .old 2, .old 3, .old 4, .old 5, .old 6, .old 8, .old 9] [.old 0, .old 1, .old 2, .old 3, .old 4, .old 5, .old 6, .old 8, .old 9])
         ·replace H := oA H
          obtain ⟨_, H⟩ := H
          refine brF ?_
          refine brF ?_
          refine brF ?_
          refine brF ?_
          refine brF ?_
          refine aA ?_
          refine aA ?_
          refine apB ?_
          exact hL0 _ _ _ _ _ _ _ _ _ _ _ _ _ _ _ _ H (by omega) (cI [.old 0, .old 1, .old 2, .old 3, .old 4, .old 5, .old 6] [.old 0, .old 1, .old 2, .old 3, .old 4, .old 5, .old 6, .old 8, .old 9] [.old 0, .old 1, .old 2, .old 3, .old 4, .old 5, .old 6, .old 8, .old 9])
      ·replace H := oC H
       obtain ⟨_, C2, H⟩ := H
       refine exV ?_
       refine exV ?_
       refine Exists.intro _ (And.intro (spec_l13Reduce.pr C2) ?_)
       refine aA ?_
       refine exV ?_
       refine brI H ?_ ?_ <;> clear H <;> intro _ H
       ·refine aA ?_
        refine leE ?_
        refine aA ?_
        exact E H
       ·refine leE ?_
        refine aA ?_
        refine aA ?_
        refine leE ?_
        refine aA ?_
        exact E H
end Go.Ev
