/- Walks of functions with the plain evaluator: what each computes -/
import Derived.Test.YtefelghmmpmigaaEh3
import Derived.Test.YtefelghmmpmigaaEx
import Derived.Test.YtefelghmmpmigaaW0
namespace Go.Ev
open Go.Proofs Go Go.Proofs.YtefelghmmpmigaaW.PrintWords Go.Proofs.Ytefelghmmpmigaa.Q
set_option maxRecDepth 100000
set_option linter.unusedVariables false
attribute [local irreducible] br Loop
/-! spec_l13Reduce -/
noncomputable def lv57 : Nat → List Nat := atL [(0, [0, 1, 2, 3, 8, 9, 10]), (2, [0, 1, 2, 3, 8, 11, 12]), (4, [0, 1, 2, 3, 8, 9, 11, 12, 13]), (6, [0, 1, 2, 3, 8, 9, 11, 12, 13, 14, 15]), (8, [2, 3, 8, 11, 17, 18, 19]), (10, [2, 3, 8, 11, 17, 18, 19, 20, 21]), (12, [2, 3, 8, 11, 17, 18, 19, 20, 21, 22, 23, 24])]
noncomputable def dr57 : Nat → Dr := atD [(40, ⟨[], line [0, 1, 2, 3, 4, 5, 6, 7, 8, 9, 10, 11]⟩), (47, ⟨[(0, 1, []), (1, 1, [])], line [0, 1, 2, 3, 4, 5, 6, 7, 8, 9, 10, 11, 12]⟩)]
theorem ok57 : bodyOk dr57 Try.f57 = true := by kernel_rfl
set_option maxHeartbeats 8000000 in
theorem spec_l13Reduce.pr {k : Nat} {a0 : Int} {a1 : Int} {l2 : List (List Int)} {l3 : List Bool} {r : (Int × Int × (List (List Int)) × List Bool)} {n0 : Nat} {c0 : List AV} {n1 : Nat} (H : spec_l13Reduce.f k a0 a1 l2 l3 = some r) (hn0 : n0 = l2.length := by exact ln) (hc0 : mapR view c0 = iis l2 := by exact vw) (hn1 : n1 = l3.length := by exact ln) : Promise Try.prog tb 57 [.int .i64 a0, .int .i64 a1, .lit n0 c0, .lit n1 (bb l3)] (.agg [.int .i64 r.1, .int .i64 r.2.1, .own 23 r.2.2.1.length (ois 3 r.2.2.1), .own 4 r.2.2.2.length (bb r.2.2.2)]) := by
  subst hn0
  subst hn1
  refine Promise.weak (.cons (Weak.refl _) <| .cons (Weak.refl _) <| .cons (weak_lit hc0) <| .cons (Weak.refl _) <| .nil) ?_
  have E := @reF _ (fun r : (Int × Int × (List (List Int)) × List Bool) => .agg [.int .i64 r.1, .int .i64 r.2.1, .own 23 r.2.2.1.length (ois 3 r.2.2.1), .own 4 r.2.2.2.length (bb r.2.2.2)]) r
  refine promise_body tb_ok rfl lv57 dr57 Try.func57 ok57 rfl ?_
  unfold spec_l13Reduce.f at H
  refine L6 (fun a0 a1 a2 a3 a9 a10 => ⟨asl [(0, .int IntKind.i64 a0), (1, .int IntKind.i64 a1), (2, .lit a2.length (iis a2)), (3, .lit a3.length (bb a3)), (8, .ptr 0 0), (9, R 1 a9.length), (10, .int IntKind.i64 a10)], hp [.box 29 [.int IntKind.i64 0, .int IntKind.i64 0, R 2 0, R 3 0], .row 23 0 false (ois 3 a9), .row 23 0 false [], .row 4 0 false []]⟩) spec_l13Reduce.l0 H (cI [.old 228, .old 500] [.old 228, .old 500, .nilB 228 2, .nilB 228 3] [.old 228, .old 500, .nilB 228 2, .nilB 228 3]) ?_
  clear H
  intro k a0 a1 a2 a3 a9 a10 L0 hk H hL0
  rw [spec_l13Reduce.l0] at H
  refine brI H ?_ ?_ <;> clear H <;> intro _ H
  ·replace H := oA H
   obtain ⟨_, H⟩ := H
   refine aA ?_
   refine exB ?_
   refine brI H ?_ ?_ <;> clear H <;> intro _ H
   ·replace H := oA H
    obtain ⟨_, H⟩ := H
    refine aA ?_
    refine leE ?_
    exact hL0 _ _ _ _ _ _ _ _ H (by omega) (cI [.old 0, .old 1] [.old 0, .old 1, .old 2, .old 3] [.old 0, .old 1, .old 2, .old 3])
   ·replace H := oA H
    obtain ⟨_, H⟩ := H
    refine aA ?_
    refine leE ?_
    exact hL0 _ _ _ _ _ _ _ _ H (by omega) (cI [.old 0, .old 1] [.old 0, .old 1, .old 2, .old 3] [.old 0, .old 1, .old 2, .old 3])
  ·replace H := oC H
   obtain ⟨_, C0, H⟩ := H
   refine Exists.intro _ (And.intro (spec_l4Number.pr C0) ?_)
   refine L6 (fun b0 b1 b2 b3 b11 b12 => ⟨asl [(0, .int IntKind.i64 b0), (1, .int IntKind.i64 b1), (2, .lit b2.length (iis b2)), (3, .lit b3.length (bb b3)), (8, .ptr 0 0), (11, R 1 b11.length), (12, .int IntKind.i64 b12)], hp [.box 29 [.int IntKind.i64 0, .int IntKind.i64 0, R 2 0, R 3 0], .row 3 0 false (ii b11), .row 23 0 false [], .row 4 0 false []]⟩) spec_l13Reduce.l1 H (cI [.old 0, .old 820] [.old 0, .old 820, .old 2, .old 3] [.old 0, .old 820, .old 2, .old 3]) ?_
   clear H
   intro k b0 b1 b2 b3 b11 b12 L1 hk H hL1
   rw [spec_l13Reduce.l1] at H
   refine brI H ?_ ?_ <;> clear H <;> intro _ H
   ·refine L8 (fun c0 c1 c2 c3 c9 c11 c12 c13 => ⟨asl [(0, .int IntKind.i64 c0), (1, .int IntKind.i64 c1), (2, .lit c2.length (iis c2)), (3, .lit c3.length (bb c3)), (8, .ptr 0 0), (9, R 1 c9.length), (11, R 2 c11.length), (12, .int IntKind.i64 c12), (13, .int IntKind.i64 c13)], hp [.box 29 [.int IntKind.i64 0, .int IntKind.i64 0, R 3 0, R 4 0], .row 23 0 false (ois 3 c9), .row 3 0 false (ii c11), .row 23 0 false [], .row 4 0 false []]⟩) spec_l13Reduce.l2 H (cI [.old 0, .old 932, .old 1] [.old 0, .old 932, .old 1, .old 2, .old 3] [.old 0, .old 932, .old 1, .old 2, .old 3]) ?_
    clear H
    intro k c0 c1 c2 c3 c9 c11 c12 c13 L2 hk H hL2
    rw [spec_l13Reduce.l2] at H
    refine brI H ?_ ?_ <;> clear H <;> intro _ H
    ·replace H := oA H
     obtain ⟨_, H⟩ := H
     replace H := oA H
     obtain ⟨_, H⟩ := H
     refine aA ?_
     refine exI ?_
     refine L10 (fun d0 d1 d2 d3 d9 d11 d12 d13 d14 d15 => ⟨asl [(0, .int IntKind.i64 d0), (1, .int IntKind.i64 d1), (2, .lit d2.length (iis d2)), (3, .lit d3.length (bb d3)), (8, .ptr 0 0), (9, R 1 d9.length), (11, R 2 d11.length), (12, .int IntKind.i64 d12), (13, .int IntKind.i64 d13), (14, R 3 d14.length), (15, .int IntKind.i64 d15)], hp [.box 29 [.int IntKind.i64 0, .int IntKind.i64 0, R 4 0, R 5 0], .row 23 0 false (ois 3 d9), .row 3 0 false (ii d11), .row 3 0 false (ii d14), .row 23 0 false [], .row 4 0 false []]⟩) spec_l13Reduce.l3 H (cI [.old 0, .old 1, .old 2, .old 1108] [.old 0, .old 1, .old 2, .old 1108, .old 3, .old 4] [.old 0, .old 1, .old 2, .old 1108, .old 3, .old 4]) ?_
     clear H
     intro k d0 d1 d2 d3 d9 d11 d12 d13 d14 d15 L3 hk H hL3
     rw [spec_l13Reduce.l3] at H
     replace H := oA H
     obtain ⟨_, H⟩ := H
     replace H := oA H
     obtain ⟨_, H⟩ := H
     refine aA ?_
     refine exR ?_
     refine brI H ?_ ?_ <;> clear H <;> intro _ H
     ·replace H := oA H
      obtain ⟨_, H⟩ := H
      replace H := oA H
      obtain ⟨_, H⟩ := H
      replace H := oA H
      obtain ⟨_, H⟩ := H
      replace H := oA H
      obtain ⟨_, H⟩ := H
      refine aA ?_
      refine exR ?_
      refine aA ?_
      refine exI ?_
      refine aA ?_
      refine exI ?_
      refine aA ?_
      refine aA ?_
      refine apI ?_
      exact hL3 _ _ _ _ _ _ _ _ _ _ _ _ H (by omega) (cI [.old 0, .old 1, .old 2, .old 3] [.old 0, .old 1, .old 2, .old 3, .old 4, .old 5] [.old 0, .old 1, .old 2, .old 3, .old 4, .old 5])
     ·replace H := oA H
      obtain ⟨_, H⟩ := H
      refine aA ?_
      refine apO ?_
      exact hL2 _ _ _ _ _ _ _ _ _ _ H (by omega) (cI [.old 0, .old 1, .old 2] [.old 0, .old 1, .old 2, .old 4, .old 5] [.old 0, .old 1, .old 2, .old 4, .old 5])
    ·replace H := oC H
     obtain ⟨_, C1, H⟩ := H
     replace H := oC H
     obtain ⟨_, C2, H⟩ := H
     refine Exists.intro _ (And.intro (spec_l4Number.pr C1) ?_)
     refine Exists.intro _ (And.intro (spec_l3Same.pr C2) ?_)
     refine brI H ?_ ?_ <;> clear H <;> intro _ H
     ·exact hL1 _ _ _ _ _ _ _ _ H (by omega) (cI [.old 0, .old 1556] [.old 0, .old 1556, .old 3, .old 4] [.old 0, .old 1556, .old 3, .old 4])
     ·exact hL1 _ _ _ _ _ _ _ _ H (by omega) (cI [.old 0, .old 1556] [.old 0, .old 1556, .old 3, .old 4] [.old 0, .old 1556, .old 3, .old 4])
   ·refine aA ?_
    refine leE ?_
    refine L9 (fun c2 c3 c11 c18 c19 c533000 c533001 c533002 c533003 => ⟨asl [(2, .lit c2.length (iis c2)), (3, .lit c3.length (bb c3)), (8, .ptr 0 0), (11, R 1 c11.length), (17, .ptr 2 0), (18, R 3 c18.length), (19, .int IntKind.i64 c19)], hp [.box 29 [.int IntKind.i64 0, .int IntKind.i64 0, R 4 0, R 5 0], .row 3 0 false (ii c11), .box 29 [.int IntKind.i64 c533000, .int IntKind.i64 c533001, R 6 c533002.length, R 7 c533003.length], .row 3 0 false (ii c18), .row 23 0 false [], .row 4 0 false [], .row 23 0 false (ois 3 c533002), .row 4 0 false (bb c533003)]⟩) spec_l13Reduce.l4 H (cI [.old 0, .old 1, .old 372, .old 1716] [.old 0, .old 1, .old 372, .old 1716, .old 2, .old 3, .nilB 372 2, .nilB 372 3] [.old 0, .old 1, .old 372, .old 1716, .old 2, .old 3, .nilB 372 2, .nilB 372 3]) ?_
    clear H
    intro k c2 c3 c11 c18 c19 c533000 c533001 c533002 c533003 L2 hk H hL2
    rw [spec_l13Reduce.l4] at H
    refine brI H ?_ ?_ <;> clear H <;> intro _ H
    ·refine L11 (fun d2 d3 d11 d18 d19 d20 d21 d533000 d533001 d533002 d533003 => ⟨asl [(2, .lit d2.length (iis d2)), (3, .lit d3.length (bb d3)), (8, .ptr 0 0), (11, R 1 d11.length), (17, .ptr 2 0), (18, R 3 d18.length), (19, .int IntKind.i64 d19), (20, R 4 d20.length), (21, .int IntKind.i64 d21)], hp [.box 29 [.int IntKind.i64 0, .int IntKind.i64 0, R 5 0, R 6 0], .row 3 0 false (ii d11), .box 29 [.int IntKind.i64 d533000, .int IntKind.i64 d533001, R 7 d533002.length, R 8 d533003.length], .row 3 0 false (ii d18), .row 3 0 false (ii d20), .row 23 0 false [], .row 4 0 false [], .row 23 0 false (ois 3 d533002), .row 4 0 false (bb d533003)]⟩) spec_l13Reduce.l5 H (cI [.old 0, .old 1, .old 2, .old 3, .old 1828] [.old 0, .old 1, .old 2, .old 3, .old 1828, .old 4, .old 5, .old 6, .old 7] [.old 0, .old 1, .old 2, .old 3, .old 1828, .old 4, .old 5, .old 6, .old 7]) ?_
     clear H
     intro k d2 d3 d11 d18 d19 d20 d21 d533000 d533001 d533002 d533003 L3 hk H hL3
     rw [spec_l13Reduce.l5] at H
     replace H := oA H
     obtain ⟨_, H⟩ := H
     replace H := oA H
     obtain ⟨_, H⟩ := H
     replace H := oA H
     obtain ⟨_, H⟩ := H
     replace H := oA H
     obtain ⟨_, H⟩ := H
     refine aA ?_
     refine exI ?_
     refine aA ?_
     refine exR ?_
     refine brI H ?_ ?_ <;> clear H <;> intro _ H
     ·replace H := oA H
      obtain ⟨_, H⟩ := H
      refine aA ?_
      refine exI ?_
      refine aA ?_
      refine exR ?_
      refine aA ?_
      refine exI ?_
      refine L14 (fun e2 e3 e11 e18 e19 e20 e21 e22 e23 e24 e533000 e533001 e533002 e533003 => ⟨asl [(2, .lit e2.length (iis e2)), (3, .lit e3.length (bb e3)), (8, .ptr 0 0), (11, R 1 e11.length), (17, .ptr 2 0), (18, R 3 e18.length), (19, .int IntKind.i64 e19), (20, R 4 e20.length), (21, .int IntKind.i64 e21), (22, .int IntKind.i64 e22), (23, .int IntKind.i64 e23), (24, .int IntKind.i64 e24)], hp [.box 29 [.int IntKind.i64 0, .int IntKind.i64 0, R 5 0, R 6 0], .row 3 0 false (ii e11), .box 29 [.int IntKind.i64 e533000, .int IntKind.i64 e533001, R 7 e533002.length, R 8 e533003.length], .row 3 0 false (ii e18), .row 3 0 false (ii e20), .row 23 0 false [], .row 4 0 false [], .row 23 0 false (ois 3 e533002), .row 4 0 false (bb e533003)]⟩) spec_l13Reduce.l6 H (cI [.old 0, .old 1, .old 2, .old 3, .old 4] [.old 0, .old 1, .old 2, .old 3, .old 4, .old 5, .old 6, .old 7, .old 8] [.old 0, .old 1, .old 2, .old 3, .old 4, .old 5, .old 6, .old 7, .old 8]) ?_
      clear H
      intro k e2 e3 e11 e18 e19 e20 e21 e22 e23 e24 e533000 e533001 e533002 e533003 L4 hk H hL4
      rw [spec_l13Reduce.l6] at H
      refine brI H ?_ ?_ <;> clear H <;> intro _ H
      ·rcases k with _ | k
       · cases H
       rw [spec_l13Reduce.j7] at H
       refine brT ?_
       refine brT ?_
       refine brI H ?_ ?_ <;> clear H <;> intro _ H
       ·replace H := oA H
        obtain ⟨_, H⟩ := H
        replace H := oA H
        obtain ⟨_, H⟩ := H
        replace H := oA H
        obtain ⟨_, H⟩ := H
        replace H := oA H
        obtain ⟨_, H⟩ := H
        replace H := oA H
        obtain ⟨_, H⟩ := H
        replace H := oA H
        obtain ⟨_, H⟩ := H
        refine aA ?_
        refine exI ?_
        refine aA ?_
        refine exI ?_
        refine aA ?_
        refine exI ?_
        refine brI H ?_ ?_ <;> clear H <;> intro _ H
        ·exact hL4 _ _ _ _ _ _ _ _ _ _ _ _ _ _ _ _ H (by omega) (cI [.old 0, .old 1, .old 2, .old 3, .old 4] [.old 0, .old 1, .old 2, .old 3, .old 4, .old 5, .old 6, .old 7, .old 8] [.old 0, .old 1, .old 2, .old 3, .old 4, .old 5, .old 6, .old 7, .old 8])
        ·exact hL4 _ _ _ _ _ _ _ _ _ _ _ _ _ _ _ _ H (by omega) (cI [.old 0, .old 1, .old 2, .old 3, .old 4] [.old 0, .old 1, .old 2, .old 3, .old 4, .old 5, .old 6, .old 7, .old 8] [.old 0, .old 1, .old 2, .old 3, .old 4, .old 5, .old 6, .old 7, .old 8])
       ·refine brI H ?_ ?_ <;> clear H <;> intro _ H
        ·replace H := oA H
         obtain ⟨_, H⟩ := H
         replace H := oA H
         obtain ⟨_, H⟩ := H
         refine aA ?_
         refine aA ?_
         refine apI ?_
         refine aA ?_
         refine aA ?_
         refine apI ?_
         exact hL3 _ _ _ _ _ _ _ _ _ _ _ _ _ H (by omega) (cI [.old 0, .old 1, .old 2, .old 3, .old 4] [.old 0, .old 1, .old 2, .old 3, .old 4, .old 5, .old 6, .old 7, .old 8] [.old 0, .old 1, .old 2, .old 3, .old 4, .old 5, .old 6, .old 7, .old 8])
        ·replace H := oA H
         obtain ⟨_, H⟩ := H
         refine aA ?_
         refine aA ?_
         refine apI ?_
         exact hL3 _ _ _ _ _ _ _ _ _ _ _ _ _ H (by omega) (cI [.old 0, .old 1, .old 2, .old 3, .old 4] [.old 0, .old 1, .old 2, .old 3, .old 4, .old 5, .old 6, .old 7, .old 8] [.old 0, .old 1, .old 2, .old 3, .old 4, .old 5, .old 6, .old 7, .old 8])
      ·rcases k with _ | k
       · cases H
       rw [spec_l13Reduce.j7] at H
       replace H := oF H
       refine brF ?_
       refine brF ?_
       refine brF ?_
       refine brI H ?_ ?_ <;> clear H <;> intro _ H
       ·replace H := oA H
        obtain ⟨_, H⟩ := H
        replace H := oA H
        obtain ⟨_, H⟩ := H
        refine aA ?_
        refine aA ?_
        refine apI ?_
        refine aA ?_
        refine aA ?_
        refine apI ?_
        exact hL3 _ _ _ _ _ _ _ _ _ _ _ _ _ H (by omega) (cI [.old 0, .old 1, .old 2, .old 3, .old 4] [.old 0, .old 1, .old 2, .old 3, .old 4, .old 5, .old 6, .old 7, .old 8] [.old 0, .old 1, .old 2, .old 3, .old 4, .old 5, .old 6, .old 7, .old 8])
       ·replace H := oA H
        obtain ⟨_, H⟩ := H
        refine aA ?_
        refine aA ?_
        refine apI ?_
        exact hL3 _ _ _ _ _ _ _ _ _ _ _ _ _ H (by omega) (cI [.old 0, .old 1, .old 2, .old 3, .old 4] [.old 0, .old 1, .old 2, .old 3, .old 4, .old 5, .old 6, .old 7, .old 8] [.old 0, .old 1, .old 2, .old 3, .old 4, .old 5, .old 6, .old 7, .old 8])
     ·replace H := oA H
      obtain ⟨_, H⟩ := H
      replace H := oA H
      obtain ⟨_, H⟩ := H
      replace H := oA H
      obtain ⟨_, H⟩ := H
      refine exV ?_
      refine aA ?_
      refine apO ?_
      refine aA ?_
      refine leE ?_
      refine exV ?_
      refine aA ?_
      refine exI ?_
      refine aA ?_
      refine exB ?_
      refine aA ?_
      refine aA ?_
      refine apB ?_
      refine aA ?_
      refine leE ?_
      exact hL2 _ _ _ _ _ _ _ _ _ _ _ H (by omega) (cI [.old 0, .old 1, .old 2, .old 3] [.old 0, .old 1, .old 2, .old 3, .old 5, .old 6, .old 7, .old 8] [.old 0, .old 1, .old 2, .old 3, .old 5, .old 6, .old 7, .old 8])
    ·refine leE ?_
     refine aA ?_
     refine aA ?_
     refine leE ?_
     refine leE ?_
     refine aA ?_
     exact E H
/-! spec_ExistsTrack -/
noncomputable def lv24 : Nat → List Nat := atL [(0, [1, 2, 4, 6, 7, 8]), (2, [1, 2, 4, 6, 7, 8, 9]), (4, [1, 2, 4, 6, 11, 12, 13, 14]), (6, [1, 2, 4, 6, 11, 12, 13, 14, 15, 16]), (8, [1, 2, 4, 6, 11, 12, 13, 14, 15, 16, 17, 18]), (10, [1, 2, 4, 6, 11, 12, 13, 14, 15, 16, 17, 18, 19]), (12, [1, 2, 4, 6, 11, 12, 13, 14, 15, 16, 17, 20, 21]), (14, [1, 2, 4, 6, 11, 12, 13, 14, 22, 23])]
noncomputable def dr24 : Nat → Dr := atD [(11, ⟨[], line [0, 1, 2, 3, 4, 5, 6, 7, 8, 9, 10, 11, 12, 13, 14, 15, 16, 17]⟩), (33, ⟨[], line [0, 1, 2, 3, 4, 5, 6, 7, 8, 9, 10, 11, 12, 13, 14, 15, 16, 17]⟩)]
theorem ok24 : bodyOk dr24 Try.f24 = true := by kernel_rfl
set_option maxHeartbeats 8000000 in
theorem spec_ExistsTrack.pr {k : Nat} {a0_0 : Int} {a0_1 : Int} {l0_2 : List (List Int)} {l0_3 : List Bool} {a1 : Int} {r : (Int × Int × (List (List Int)) × List Bool × Bool)} {n0 : Nat} {c0 : List AV} {n1 : Nat} (H : spec_ExistsTrack.f k a0_0 a0_1 l0_2 l0_3 a1 = some r) (hn0 : n0 = l0_2.length := by exact ln) (hc0 : mapR view c0 = iis l0_2 := by exact vw) (hn1 : n1 = l0_3.length := by exact ln) : Promise Try.prog tb 24 [.agg [.int .i64 a0_0, .int .i64 a0_1, .lit n0 c0, .lit n1 (bb l0_3)], .int .i64 a1] (.tup [.agg [.int .i64 r.1, .int .i64 r.2.1, .own 23 r.2.2.1.length (ois 3 r.2.2.1), .own 4 r.2.2.2.1.length (bb r.2.2.2.1)], .bool r.2.2.2.2]) := by
  subst hn0
  subst hn1
  refine Promise.weak (.cons (weak_agg (.cons (Weak.refl _) <| .cons (Weak.refl _) <| .cons (weak_lit hc0) <| .cons (Weak.refl _) <| .nil)) <| .cons (Weak.refl _) <| .nil) ?_
  have E := @reF _ (fun r : (Int × Int × (List (List Int)) × List Bool × Bool) => .tup [.agg [.int .i64 r.1, .int .i64 r.2.1, .own 23 r.2.2.1.length (ois 3 r.2.2.1), .own 4 r.2.2.2.1.length (bb r.2.2.2.1)], .bool r.2.2.2.2]) r
  refine promise_body tb_ok rfl lv24 dr24 Try.func24 ok24 rfl ?_
  unfold spec_ExistsTrack.f at H
  replace H := oC H
  obtain ⟨_, C0, H⟩ := H
  refine aA ?_
  refine leE ?_
  refine aA ?_
  refine Exists.intro _ (And.intro (spec_IsRelation.pr C0) ?_)
  refine brN H ?_ ?_ <;> clear H <;> intro _ H
  ·rcases k with _ | k
   · cases H
   rw [spec_ExistsTrack.j0] at H
   replace H := oT H
   refine brT ?_
   refine brT ?_
   refine brT ?_
   refine brT ?_
   refine brT ?_
   refine brT ?_
   refine brT ?_
   refine brT ?_
   refine aA ?_
   refine leE ?_
   refine leE ?_
   refine aA ?_
   exact E H
  ·refine brF ?_
   refine brF ?_
   refine brI H ?_ ?_ <;> clear H <;> intro _ H
   ·rcases k with _ | k
    · cases H
    rw [spec_ExistsTrack.j0] at H
    replace H := oT H
    refine brT ?_
    refine brT ?_
    refine brT ?_
    refine brT ?_
    refine brT ?_
    refine aA ?_
    refine leE ?_
    refine leE ?_
    refine aA ?_
    exact E H
   ·rcases k with _ | k
    · cases H
    rw [spec_ExistsTrack.j0] at H
    refine brF ?_
    refine brF ?_
    refine exV ?_
    refine brF ?_
    refine brF ?_
    refine brI H ?_ ?_ <;> clear H <;> intro _ H
    ·refine aA ?_
     refine leE ?_
     refine leE ?_
     refine aA ?_
     exact E H
    ·refine exV ?_
     refine L8 (fun a1 a6 a7 a8 a306000 a306001 a306002 a306003 => ⟨asl [(1, .int IntKind.i64 a1), (2, .ptr 0 0), (4, .ptr 1 0), (6, .int IntKind.i64 a6), (7, R 2 a7.length), (8, .int IntKind.i64 a8)], hp [.box 29 [.int IntKind.i64 a306000, .int IntKind.i64 a306001, .lit a306002.length (iis a306002), .lit a306003.length (bb a306003)], .box 29 [.int IntKind.i64 0, .int IntKind.i64 0, R 3 0, R 4 0], .row 3 0 false (ii a7), .row 23 0 false [], .row 4 0 false []]⟩) spec_ExistsTrack.l0 H (cI [.old 132, .old 164, .old 772] [.old 132, .old 164, .old 772, .nilB 164 2, .nilB 164 3] [.old 132, .old 164, .old 772, .nilB 164 2, .nilB 164 3]) ?_
     clear H
     intro k a1 a6 a7 a8 a306000 a306001 a306002 a306003 L0 hk H hL0
     rw [spec_ExistsTrack.l0] at H
     refine brI H ?_ ?_ <;> clear H <;> intro _ H
     ·refine L9 (fun b1 b6 b7 b8 b9 b306000 b306001 b306002 b306003 => ⟨asl [(1, .int IntKind.i64 b1), (2, .ptr 0 0), (4, .ptr 1 0), (6, .int IntKind.i64 b6), (7, R 2 b7.length), (8, .int IntKind.i64 b8), (9, .int IntKind.i64 b9)], hp [.box 29 [.int IntKind.i64 b306000, .int IntKind.i64 b306001, .lit b306002.length (iis b306002), .lit b306003.length (bb b306003)], .box 29 [.int IntKind.i64 0, .int IntKind.i64 0, R 3 0, R 4 0], .row 3 0 false (ii b7), .row 23 0 false [], .row 4 0 false []]⟩) spec_ExistsTrack.l1 H (cI [.old 0, .old 1, .old 2] [.old 0, .old 1, .old 2, .old 3, .old 4] [.old 0, .old 1, .old 2, .old 3, .old 4]) ?_
      clear H
      intro k b1 b6 b7 b8 b9 b306000 b306001 b306002 b306003 L1 hk H hL1
      rw [spec_ExistsTrack.l1] at H
      refine exV ?_
      refine brI H ?_ ?_ <;> clear H <;> intro _ H
      ·replace H := oA H
       obtain ⟨_, H⟩ := H
       replace H := oA H
       obtain ⟨_, H⟩ := H
       replace H := oA H
       obtain ⟨_, H⟩ := H
       replace H := oA H
       obtain ⟨_, H⟩ := H
       replace H := oC H
       obtain ⟨_, C1, H⟩ := H
       replace H := oA H
       obtain ⟨_, H⟩ := H
       replace H := oA H
       obtain ⟨_, H⟩ := H
       replace H := oC H
       obtain ⟨_, C2, H⟩ := H
       refine exV ?_
       refine aA ?_
       refine exI ?_
       refine aA ?_
       refine exR ?_
       refine exV ?_
       refine exV ?_
       refine Exists.intro _ (And.intro (spec_l15Letter.pr C1) ?_)
       refine aA ?_
       refine exI ?_
       refine Exists.intro _ (And.intro (spec_l4Has.pr C2) ?_)
       refine brN H ?_ ?_ <;> clear H <;> intro _ H
       ·replace H := oA H
        obtain ⟨_, H⟩ := H
        refine aA ?_
        refine aA ?_
        refine apI ?_
        exact hL1 _ _ _ _ _ _ _ _ _ _ _ H (by omega) (cI [.old 0, .old 1, .old 2] [.old 0, .old 1, .old 2, .old 3, .old 4] [.old 0, .old 1, .old 2, .old 3, .old 4])
       ·exact hL1 _ _ _ _ _ _ _ _ _ _ _ H (by omega) (cI [.old 0, .old 1, .old 2] [.old 0, .old 1, .old 2, .old 3, .old 4] [.old 0, .old 1, .old 2, .old 3, .old 4])
      ·exact hL0 _ _ _ _ _ _ _ _ _ _ H (by omega) (cI [.old 0, .old 1, .old 2] [.old 0, .old 1, .old 2, .old 3, .old 4] [.old 0, .old 1, .old 2, .old 3, .old 4])
     ·replace H := oC H
      obtain ⟨_, C1, H⟩ := H
      refine Exists.intro _ (And.intro (spec_l15Set.pr C1) ?_)
      refine L10 (fun b1 b6 b11 b12 b13 b14 b306000 b306001 b306002 b306003 => ⟨asl [(1, .int IntKind.i64 b1), (2, .ptr 0 0), (4, .ptr 1 0), (6, .int IntKind.i64 b6), (11, R 2 b11.length), (12, R 3 b12.length), (13, R 4 b13.length), (14, .int IntKind.i64 b14)], hp [.box 29 [.int IntKind.i64 b306000, .int IntKind.i64 b306001, .lit b306002.length (iis b306002), .lit b306003.length (bb b306003)], .box 29 [.int IntKind.i64 0, .int IntKind.i64 0, R 5 0, R 6 0], .row 23 0 false (ois 3 b11), .row 23 0 false (ois 3 b12), .row 4 0 false (bb b13), .row 23 0 false [], .row 4 0 false []]⟩) spec_ExistsTrack.l2 H (cI [.old 0, .old 1, .old 1428, .old 1444, .old 1460] [.old 0, .old 1, .old 1428, .old 1444, .old 1460, .old 3, .old 4] [.old 0, .old 1, .old 1428, .old 1444, .old 1460, .old 3, .old 4]) ?_
      clear H
      intro k b1 b6 b11 b12 b13 b14 b306000 b306001 b306002 b306003 L1 hk H hL1
      rw [spec_ExistsTrack.l2] at H
      refine brI H ?_ ?_ <;> clear H <;> intro _ H
      ·refine brI H ?_ ?_ <;> clear H <;> intro _ H
       ·refine aA ?_
        refine leE ?_
        refine leE ?_
        refine aA ?_
        exact E H
       ·refine L12 (fun c1 c6 c11 c12 c13 c14 c15 c16 c306000 c306001 c306002 c306003 => ⟨asl [(1, .int IntKind.i64 c1), (2, .ptr 0 0), (4, .ptr 1 0), (6, .int IntKind.i64 c6), (11, R 2 c11.length), (12, R 3 c12.length), (13, R 4 c13.length), (14, .int IntKind.i64 c14), (15, R 5 c15.length), (16, .int IntKind.i64 c16)], hp [.box 29 [.int IntKind.i64 c306000, .int IntKind.i64 c306001, .lit c306002.length (iis c306002), .lit c306003.length (bb c306003)], .box 29 [.int IntKind.i64 0, .int IntKind.i64 0, R 6 0, R 7 0], .row 23 0 false (ois 3 c11), .row 23 0 false (ois 3 c12), .row 4 0 false (bb c13), .row 3 0 false (ii c15), .row 23 0 false [], .row 4 0 false []]⟩) spec_ExistsTrack.l3 H (cI [.old 0, .old 1, .old 2, .old 3, .old 4, .old 1636] [.old 0, .old 1, .old 2, .old 3, .old 4, .old 1636, .old 5, .old 6] [.old 0, .old 1, .old 2, .old 3, .old 4, .old 1636, .old 5, .old 6]) ?_
        clear H
        intro k c1 c6 c11 c12 c13 c14 c15 c16 c306000 c306001 c306002 c306003 L2 hk H hL2
        rw [spec_ExistsTrack.l3] at H
        replace H := oC H
        obtain ⟨_, C2, H⟩ := H
        refine exV ?_
        refine exV ?_
        refine Exists.intro _ (And.intro (spec_l13Letters.pr C2) ?_)
        refine brI H ?_ ?_ <;> clear H <;> intro _ H
        ·replace H := oA H
         obtain ⟨_, H⟩ := H
         replace H := oA H
         obtain ⟨_, H⟩ := H
         refine aA ?_
         refine aA ?_
         refine mkI ?_
         refine L14 (fun d1 d6 d11 d12 d13 d14 d15 d16 d17 d18 d306000 d306001 d306002 d306003 => ⟨asl [(1, .int IntKind.i64 d1), (2, .ptr 0 0), (4, .ptr 1 0), (6, .int IntKind.i64 d6), (11, R 2 d11.length), (12, R 3 d12.length), (13, R 4 d13.length), (14, .int IntKind.i64 d14), (15, R 5 d15.length), (16, .int IntKind.i64 d16), (17, R 6 d17.length), (18, .int IntKind.i64 d18)], hp [.box 29 [.int IntKind.i64 d306000, .int IntKind.i64 d306001, .lit d306002.length (iis d306002), .lit d306003.length (bb d306003)], .box 29 [.int IntKind.i64 0, .int IntKind.i64 0, R 7 0, R 8 0], .row 23 0 false (ois 3 d11), .row 23 0 false (ois 3 d12), .row 4 0 false (bb d13), .row 3 0 false (ii d15), .row 3 0 false (ii d17), .row 23 0 false [], .row 4 0 false []]⟩) spec_ExistsTrack.l4 H (cI [.old 0, .old 1, .old 2, .old 3, .old 4, .old 5, .old 1828] [.old 0, .old 1, .old 2, .old 3, .old 4, .old 5, .old 1828, .old 6, .old 7] [.old 0, .old 1, .old 2, .old 3, .old 4, .old 5, .old 1828, .old 6, .old 7]) ?_
         clear H
         intro k d1 d6 d11 d12 d13 d14 d15 d16 d17 d18 d306000 d306001 d306002 d306003 L3 hk H hL3
         rw [spec_ExistsTrack.l4] at H
         refine brI H ?_ ?_ <;> clear H <;> intro _ H
         ·refine L15 (fun e1 e6 e11 e12 e13 e14 e15 e16 e17 e18 e19 e306000 e306001 e306002 e306003 => ⟨asl [(1, .int IntKind.i64 e1), (2, .ptr 0 0), (4, .ptr 1 0), (6, .int IntKind.i64 e6), (11, R 2 e11.length), (12, R 3 e12.length), (13, R 4 e13.length), (14, .int IntKind.i64 e14), (15, R 5 e15.length), (16, .int IntKind.i64 e16), (17, R 6 e17.length), (18, .int IntKind.i64 e18), (19, .int IntKind.i64 e19)], hp [.box 29 [.int IntKind.i64 e306000, .int IntKind.i64 e306001, .lit e306002.length (iis e306002), .lit e306003.length (bb e306003)], .box 29 [.int IntKind.i64 0, .int IntKind.i64 0, R 7 0, R 8 0], .row 23 0 false (ois 3 e11), .row 23 0 false (ois 3 e12), .row 4 0 false (bb e13), .row 3 0 false (ii e15), .row 3 0 false (ii e17), .row 23 0 false [], .row 4 0 false []]⟩) spec_ExistsTrack.l5 H (cI [.old 0, .old 1, .old 2, .old 3, .old 4, .old 5, .old 6] [.old 0, .old 1, .old 2, .old 3, .old 4, .old 5, .old 6, .old 7, .old 8] [.old 0, .old 1, .old 2, .old 3, .old 4, .old 5, .old 6, .old 7, .old 8]) ?_
          clear H
          intro k e1 e6 e11 e12 e13 e14 e15 e16 e17 e18 e19 e306000 e306001 e306002 e306003 L4 hk H hL4
          rw [spec_ExistsTrack.l5] at H
          refine exV ?_
          refine brI H ?_ ?_ <;> clear H <;> intro _ H
          ·replace H := oA H
           obtain ⟨_, H⟩ := H
           replace H := oA H
           obtain ⟨_, H⟩ := H
           replace H := oA H
           obtain ⟨_, H⟩ := H
           replace H := oA H
           obtain ⟨_, H⟩ := H
           refine brT ?_
           refine brT ?_
           refine aA ?_
           refine brT ?_
           refine exO ?_
           refine brT ?_
           refine brT ?_
           refine aA ?_
           refine brT ?_
           refine exI ?_
           refine brT ?_
           refine brT ?_
           refine brI H ?_ ?_ <;> clear H <;> intro _ H
           ·replace H := oA H
            obtain ⟨_, H⟩ := H
            replace H := oC H
            obtain ⟨_, C3, H⟩ := H
            replace H := oA H
            obtain ⟨_, H⟩ := H
            replace H := oA H
            obtain ⟨_, H⟩ := H
            replace H := oA H
            obtain ⟨_, H⟩ := H
            replace H := oA H
            obtain ⟨_, H⟩ := H
            refine exV ?_
            refine aA ?_
            refine exR ?_
            refine exV ?_
            refine exV ?_
            refine Exists.intro _ (And.intro (spec_l15Letter.pr C3) ?_)
            refine aA ?_
            refine exI ?_
            refine aA ?_
            refine aA ?_
            refine seI ?_
            exact hL4 _ _ _ _ _ _ _ _ _ _ _ _ _ _ _ _ _ H (by omega) (cI [.old 0, .old 1, .old 2, .old 3, .old 4, .old 5, .old 6] [.old 0, .old 1, .old 2, .old 3, .old 4, .old 5, .old 6, .old 7, .old 8] [.old 0, .old 1, .old 2, .old 3, .old 4, .old 5, .old 6, .old 7, .old 8])
           ·exact hL3 _ _ _ _ _ _ _ _ _ _ _ _ _ _ _ _ H (by omega) (cI [.old 0, .old 1, .old 2, .old 3, .old 4, .old 5, .old 6] [.old 0, .old 1, .old 2, .old 3, .old 4, .old 5, .old 6, .old 7, .old 8] [.old 0, .old 1, .old 2, .old 3, .old 4, .old 5, .old 6, .old 7, .old 8])
          ·refine brF ?_
           refine brF ?_
           refine brF ?_
           refine brF ?_
           refine brF ?_
           refine brF ?_
           refine brF ?_
           refine brF ?_
           refine brF ?_
           exact hL3 _ _ _ _ _ _ _ _ _ _ _ _ _ _ _ _ H (by omega) (cI [.old 0, .old 1, .old 2, .old 3, .old 4, .old 5, .old 6] [.old 0, .old 1, .old 2, .old 3, .old 4, .old 5, .old 6, .old 7, .old 8] [.old 0, .old 1, .old 2, .old 3, .old 4, .old 5, .old 6, .old 7, .old 8])
         ·refine L15 (fun e1 e6 e11 e12 e13 e14 e15 e16 e17 e20 e21 e306000 e306001 e306002 e306003 => ⟨asl [(1, .int IntKind.i64 e1), (2, .ptr 0 0), (4, .ptr 1 0), (6, .int IntKind.i64 e6), (11, R 2 e11.length), (12, R 3 e12.length), (13, R 4 e13.length), (14, .int IntKind.i64 e14), (15, R 5 e15.length), (16, .int IntKind.i64 e16), (17, R 6 e17.length), (20, .int IntKind.i64 e20), (21, .int IntKind.i64 e21)], hp [.box 29 [.int IntKind.i64 e306000, .int IntKind.i64 e306001, .lit e306002.length (iis e306002), .lit e306003.length (bb e306003)], .box 29 [.int IntKind.i64 0, .int IntKind.i64 0, R 7 0, R 8 0], .row 23 0 false (ois 3 e11), .row 23 0 false (ois 3 e12), .row 4 0 false (bb e13), .row 3 0 false (ii e15), .row 3 0 false (ii e17), .row 23 0 false [], .row 4 0 false []]⟩) spec_ExistsTrack.l6 H (cI [.old 0, .old 1, .old 2, .old 3, .old 4, .old 5, .old 6] [.old 0, .old 1, .old 2, .old 3, .old 4, .old 5, .old 6, .old 7, .old 8] [.old 0, .old 1, .old 2, .old 3, .old 4, .old 5, .old 6, .old 7, .old 8]) ?_
          clear H
          intro k e1 e6 e11 e12 e13 e14 e15 e16 e17 e20 e21 e306000 e306001 e306002 e306003 L4 hk H hL4
          rw [spec_ExistsTrack.l6] at H
          refine brI H ?_ ?_ <;> clear H <;> intro _ H
          ·rcases k with _ | k
           · cases H
           rw [spec_ExistsTrack.j8] at H
           refine brT ?_
           refine brT ?_
           refine brI H ?_ ?_ <;> clear H <;> intro _ H
           ·replace H := oA H
            obtain ⟨_, H⟩ := H
            replace H := oA H
            obtain ⟨_, H⟩ := H
            replace H := oC H
            obtain ⟨_, C3, H⟩ := H
            refine aA ?_
            refine exO ?_
            refine Exists.intro _ (And.intro (spec_l3Same.pr C3) ?_)
            refine brI H ?_ ?_ <;> clear H <;> intro _ H
            ·exact hL4 _ _ _ _ _ _ _ _ _ _ _ _ _ _ _ _ _ H (by omega) (cI [.old 0, .old 1, .old 2, .old 3, .old 4, .old 5, .old 6] [.old 0, .old 1, .old 2, .old 3, .old 4, .old 5, .old 6, .old 7, .old 8] [.old 0, .old 1, .old 2, .old 3, .old 4, .old 5, .old 6, .old 7, .old 8])
            ·exact hL4 _ _ _ _ _ _ _ _ _ _ _ _ _ _ _ _ _ H (by omega) (cI [.old 0, .old 1, .old 2, .old 3, .old 4, .old 5, .old 6] [.old 0, .old 1, .old 2, .old 3, .old 4, .old 5, .old 6, .old 7, .old 8] [.old 0, .old 1, .old 2, .old 3, .old 4, .old 5, .old 6, .old 7, .old 8])
           ·refine brI H ?_ ?_ <;> clear H <;> intro _ H
            ·replace H := oA H
             obtain ⟨_, H⟩ := H
             replace H := oA H
             obtain ⟨_, H⟩ := H
             refine aA ?_
             refine apO ?_
             refine aA ?_
             refine aA ?_
             refine apI ?_
             exact hL2 _ _ _ _ _ _ _ _ _ _ _ _ _ _ H (by omega) (cI [.old 0, .old 1, .old 2, .old 3, .old 4, .old 5] [.old 0, .old 1, .old 2, .old 3, .old 4, .old 5, .old 7, .old 8] [.old 0, .old 1, .old 2, .old 3, .old 4, .old 5, .old 7, .old 8])
            ·replace H := oA H
             obtain ⟨_, H⟩ := H
             refine aA ?_
             refine aA ?_
             refine apI ?_
             exact hL2 _ _ _ _ _ _ _ _ _ _ _ _ _ _ H (by omega) (cI [.old 0, .old 1, .old 2, .old 3, .old 4, .old 5] [.old 0, .old 1, .old 2, .old 3, .old 4, .old 5, .old 7, .old 8] [.old 0, .old 1, .old 2, .old 3, .old 4, .old 5, .old 7, .old 8])
          ·rcases k with _ | k
           · cases H
           rw [spec_ExistsTrack.j8] at H
           replace H := oF H
           refine brF ?_
           refine brF ?_
           refine brF ?_
           refine brI H ?_ ?_ <;> clear H <;> intro _ H
           ·replace H := oA H
            obtain ⟨_, H⟩ := H
            replace H := oA H
            obtain ⟨_, H⟩ := H
            refine aA ?_
            refine apO ?_
            refine aA ?_
            refine aA ?_
            refine apI ?_
            exact hL2 _ _ _ _ _ _ _ _ _ _ _ _ _ _ H (by omega) (cI [.old 0, .old 1, .old 2, .old 3, .old 4, .old 5] [.old 0, .old 1, .old 2, .old 3, .old 4, .old 5, .old 7, .old 8] [.old 0, .old 1, .old 2, .old 3, .old 4, .old 5, .old 7, .old 8])
           ·replace H := oA H
            obtain ⟨_, H⟩ := H
            refine aA ?_
            refine aA ?_
            refine apI ?_
            exact hL2 _ _ _ _ _ _ _ _ _ _ _ _ _ _ H (by omega) (cI [.old 0, .old 1, .old 2, .old 3, .old 4, .old 5] [.old 0, .old 1, .old 2, .old 3, .old 4, .old 5, .old 7, .old 8] [.old 0, .old 1, .old 2, .old 3, .old 4, .old 5, .old 7, .old 8])
        ·replace H := oA H
         obtain ⟨_, H⟩ := H
         refine aA ?_
         refine apO ?_
         refine L12 (fun d1 d6 d11 d12 d13 d14 d22 d23 d306000 d306001 d306002 d306003 => ⟨asl [(1, .int IntKind.i64 d1), (2, .ptr 0 0), (4, .ptr 1 0), (6, .int IntKind.i64 d6), (11, R 2 d11.length), (12, R 3 d12.length), (13, R 4 d13.length), (14, .int IntKind.i64 d14), (22, .bool d22), (23, .int IntKind.i64 d23)], hp [.box 29 [.int IntKind.i64 d306000, .int IntKind.i64 d306001, .lit d306002.length (iis d306002), .lit d306003.length (bb d306003)], .box 29 [.int IntKind.i64 0, .int IntKind.i64 0, R 5 0, R 6 0], .row 23 0 false (ois 3 d11), .row 23 0 false (ois 3 d12), .row 4 0 false (bb d13), .row 23 0 false [], .row 4 0 false []]⟩) spec_ExistsTrack.l7 H (cI [.old 0, .old 1, .old 2, .old 3, .old 4] [.old 0, .old 1, .old 2, .old 3, .old 4, .old 6, .old 7] [.old 0, .old 1, .old 2, .old 3, .old 4, .old 6, .old 7]) ?_
         clear H
         intro k d1 d6 d11 d12 d13 d14 d22 d23 d306000 d306001 d306002 d306003 L3 hk H hL3
         rw [spec_ExistsTrack.l7] at H
         refine brI H ?_ ?_ <;> clear H <;> intro _ H
         ·refine brI H ?_ ?_ <;> clear H <;> intro _ H
          ·refine brT ?_
           refine brT ?_
           refine brT ?_
           refine brT ?_
           refine brT ?_
           refine brT ?_
           refine brT ?_
           refine brT ?_
           refine brT ?_
           refine brT ?_
           exact hL3 _ _ _ _ _ _ _ _ _ _ _ _ _ _ H (by omega) (cI [.old 0, .old 1, .old 2, .old 3, .old 4] [.old 0, .old 1, .old 2, .old 3, .old 4, .old 5, .old 6] [.old 0, .old 1, .old 2, .old 3, .old 4, .old 5, .old 6])
          ·replace H := oA H
           obtain ⟨_, H⟩ := H
           replace H := oA H
           obtain ⟨_, H⟩ := H
           replace H := oA H
           obtain ⟨_, H⟩ := H
           replace H := oA H
           obtain ⟨_, H⟩ := H
           refine brF ?_
           refine brF ?_
           refine aA ?_
           refine brF ?_
           refine exO ?_
           refine brF ?_
           refine brF ?_
           refine aA ?_
           refine brF ?_
           refine exI ?_
           refine brF ?_
           refine brF ?_
           refine brI H ?_ ?_ <;> clear H <;> intro _ H
           ·replace H := oA H
            obtain ⟨_, H⟩ := H
            refine brT ?_
            refine exV ?_
            refine brT ?_
            refine brT ?_
            refine aA ?_
            refine brT ?_
            refine exB ?_
            refine brF ?_
            refine brT ?_
            refine brF ?_
            exact hL3 _ _ _ _ _ _ _ _ _ _ _ _ _ _ H (by omega) (cI [.old 0, .old 1, .old 2, .old 3, .old 4] [.old 0, .old 1, .old 2, .old 3, .old 4, .old 5, .old 6] [.old 0, .old 1, .old 2, .old 3, .old 4, .old 5, .old 6])
           ·refine brF ?_
            refine brF ?_
            refine brF ?_
            refine brF ?_
            refine brF ?_
            refine brF ?_
            refine brF ?_
            exact hL3 _ _ _ _ _ _ _ _ _ _ _ _ _ _ H (by omega) (cI [.old 0, .old 1, .old 2, .old 3, .old 4] [.old 0, .old 1, .old 2, .old 3, .old 4, .old 5, .old 6] [.old 0, .old 1, .old 2, .old 3, .old 4, .old 5, .old 6])
         ·replace H := oA H
          obtain ⟨_, H⟩ := H
          refine aA ?_
          refine aA ?_
          refine apB ?_
          exact hL1 _ _ _ _ _ _ _ _ _ _ _ _ H (by omega) (cI [.old 0, .old 1, .old 2, .old 3, .old 4] [.old 0, .old 1, .old 2, .old 3, .old 4, .old 5, .old 6] [.old 0, .old 1, .old 2, .old 3, .old 4, .old 5, .old 6])
      ·replace H := oC H
       obtain ⟨_, C2, H⟩ := H
       refine exV ?_
       refine exV ?_
       refine Exists.intro _ (And.intro (spec_l13Reduce.pr C2) ?_)
       refine aA ?_
       refine leE ?_
       refine exV ?_
       refine brI H ?_ ?_ <;> clear H <;> intro _ H
       ·refine aA ?_
        refine leE ?_
        refine leE ?_
        refine aA ?_
        exact E H
       ·refine leE ?_
        refine aA ?_
        refine aA ?_
        refine leE ?_
        refine leE ?_
        refine aA ?_
        exact E H
/-! spec_ReducedRelation -/
noncomputable def lv65 : Nat → List Nat := atL []
noncomputable def dr65 : Nat → Dr := atD []
theorem ok65 : bodyOk dr65 Try.f65 = true := by kernel_rfl
set_option maxHeartbeats 8000000 in
theorem spec_ReducedRelation.pr {k : Nat} {a0_0 : Int} {a0_1 : Int} {l0_2 : List (List Int)} {l0_3 : List Bool} {r : (Int × Int × (List (List Int)) × List Bool × Bool)} {n0 : Nat} {c0 : List AV} {n1 : Nat} (H : spec_ReducedRelation.f k a0_0 a0_1 l0_2 l0_3 = some r) (hn0 : n0 = l0_2.length := by exact ln) (hc0 : mapR view c0 = iis l0_2 := by exact vw) (hn1 : n1 = l0_3.length := by exact ln) : Promise Try.prog tb 65 [.agg [.int .i64 a0_0, .int .i64 a0_1, .lit n0 c0, .lit n1 (bb l0_3)]] (.tup [.agg [.int .i64 r.1, .int .i64 r.2.1, .own 23 r.2.2.1.length (ois 3 r.2.2.1), .own 4 r.2.2.2.1.length (bb r.2.2.2.1)], .bool r.2.2.2.2]) := by
  subst hn0
  subst hn1
  refine Promise.weak (.cons (weak_agg (.cons (Weak.refl _) <| .cons (Weak.refl _) <| .cons (weak_lit hc0) <| .cons (Weak.refl _) <| .nil)) <| .nil) ?_
  have E := @reF _ (fun r : (Int × Int × (List (List Int)) × List Bool × Bool) => .tup [.agg [.int .i64 r.1, .int .i64 r.2.1, .own 23 r.2.2.1.length (ois 3 r.2.2.1), .own 4 r.2.2.2.1.length (bb r.2.2.2.1)], .bool r.2.2.2.2]) r
  refine promise_body tb_ok rfl lv65 dr65 Try.func65 ok65 rfl ?_
  unfold spec_ReducedRelation.f at H
  replace H := oC H
  obtain ⟨_, C0, H⟩ := H
  refine aA ?_
  refine leE ?_
  refine aA ?_
  refine Exists.intro _ (And.intro (spec_IsRelation.pr C0) ?_)
  refine brN H ?_ ?_ <;> clear H <;> intro _ H
  ·refine aA ?_
   refine leE ?_
   refine leE ?_
   refine aA ?_
   exact E H
  ·replace H := oC H
   obtain ⟨_, C1, H⟩ := H
   refine exV ?_
   refine exV ?_
   refine exV ?_
   refine exV ?_
   refine Exists.intro _ (And.intro (spec_l13Reduce.pr C1) ?_)
   refine aA ?_
   refine leE ?_
   refine leE ?_
   refine aA ?_
   exact E H
end Go.Ev
