/- Walks of functions with the plain evaluator: what each computes -/
import Derived.Test.YtefelghmmpmigaaEh1
import Derived.Test.YtefelghmmpmigaaEp
import Derived.Test.YtefelghmmpmigaaW0
namespace Go.Ev
open Go.Proofs Go Go.Proofs.YtefelghmmpmigaaW.PrintWords Go.Proofs.Ytefelghmmpmigaa.Q
set_option maxRecDepth 100000
set_option linter.unusedVariables false
attribute [local irreducible] br Loop
/-! spec_l13Reduce -/
noncomputable def lv57 : Nat → List Nat := atL [(0, [0, 1, 2, 3, 8, 9, 10]), (2, [0, 1, 2, 3, 8, 11, 12]), (4, [0, 1, 2, 3, 8, 9, 11, 12, 13]), (6, [0, 1, 2, 3, 8, 9, 11, 12, 13, 14, 15]), (8, [2, 3, 8, 11, 17, 18, 19]), (10, [2, 3, 8, 11, 17, 18, 19, 20, 21]), (12, [2, 3, 8, 11, 17, 18, 19, 20, 21, 22, 23, 24])]
noncomputable def dr57 : Nat → Dr := atD [(40, ⟨[], line [0, 1, 2, 3, 4, 5, 6, 7, 8, 9, 10, 11]⟩), (47, ⟨[(0, 1, []), (1, 1, [])], line [0, 1, 2, 3, 4, 5, 6, 7, 8, 9, 10, 11, 12]⟩)]
theorem ok57 : bodyOk dr57 Try.f57 = true := by kernel_rfl
set_option maxHeartbeats 8000000 in
theorem spec_l13Reduce.pr {k : Nat} {a0 : Int} {a1 : Int} {l2 : List (List Int)} {l3 : List Bool} {r : (Int × Int × (List (List Int)) × List Bool)} {n0 : Nat} {c0 : List AV} {n1 : Nat} (H : spec_l13Reduce.f k a0 a1 l2 l3 = some r) (hn0 : n0 = l2.length := by exact ln) (hc0 : mapR view c0 = iis l2 := by exact vw) (hn1 : n1 = l3.length := by exact ln) : Promise Try.prog tb 57 [.int .i64 a0, .int .i64 a1, .lit n0 c0, .lit n1 (bb l3)] (.agg [.int .i64 r.1, .int .i64 r.2.1, .own 23 r.2.2.1.length (ois 3 r.2.2.1), .own 4 r.2.2.2.length (bb r.2.2.2)]) := by
  subst hn0
  subst hn1
  refine Promise.weak (.cons (Weak.refl _) <| .cons (Weak.refl _) <| .cons (weak_lit hc0) <| .cons (Weak.refl _) <| .nil) ?_
  have E := @reF _ (fun r : (Int × Int × (List (List Int)) × List Bool) => .agg [.int .i64 r.1, .int .i64 r.2.1, .own 23 r.2.2.1.length (ois 3 r.2.2.1), .own 4 r.2.2.2.length (bb r.2.2.2)]) r
  refine promise_body tb_ok rfl lv57 dr57 Try.func57 ok57 rfl ?_
  unfold spec_l13Reduce.f at H
  refine L6 (fun a0 a1 a2 a3 a9 a10 => ⟨asl [(0, .int IntKind.i64 a0), (1, .int IntKind.i64 a1), (2, .lit a2.length (iis a2)), (3, .lit a3.length (bb a3)), (8, .ptr 0 0), (9, R 1 a9.length), (10, .int IntKind.i64 a10)], hp [.box 29 [.int IntKind.i64 0, .int IntKind.i64 0, R 2 0, R 3 0], .row 23 0 false (ois 3 a9), .row 23 0 false [], .row 4 0 false []]⟩) spec_l13Reduce.l0 H (cI [.old 228, .old 500] [.old 228, .old 500, .nilB 228 2, .nilB 228 3] [.old 228, .old 500, .nilB 228 2, .nilB 228 3]) ?_
  clear H
  intro k a0 a1 a2 a3 a9 a10 L0 hk H hL0
  rw [spec_l13Reduce.l0] at H
  refine brI H ?_ ?_ <;> clear H <;> intro _ H
  ·replace H := oA H
   obtain ⟨_, H⟩ := H
   refine aA ?_
   refine exB ?_
   refine brI H ?_ ?_ <;> clear H <;> intro _ H
   ·replace H := oA H
    obtain ⟨_, H⟩ := H
    refine aA ?_
    refine leE ?_
    exact hL0 _ _ _ _ _ _ _ _ H (by omega) (cI [.old 0, .old 1] [.old 0, .old 1, .old 2, .old 3] [.old 0, .old 1, .old 2, .old 3])
   ·replace H := oA H
    obtain ⟨_, H⟩ := H
    refine aA ?_
    refine leE ?_
    exact hL0 _ _ _ _ _ _ _ _ H (by omega) (cI [.old 0, .old 1] [.old 0, .old 1, .old 2, .old 3] [.old 0, .old 1, .old 2, .old 3])
  ·replace H := oC H
   obtain ⟨_, C0, H⟩ := H
   refine Exists.intro _ (And.intro (spec_l4Number.pr C0) ?_)
   refine L6 (fun b0 b1 b2 b3 b11 b12 => ⟨asl [(0, .int IntKind.i64 b0), (1, .int IntKind.i64 b1), (2, .lit b2.length (iis b2)), (3, .lit b3.length (bb b3)), (8, .ptr 0 0), (11, R 1 b11.length), (12, .int IntKind.i64 b12)], hp [.box 29 [.int IntKind.i64 0, .int IntKind.i64 0, R 2 0, R 3 0], .row 3 0 false (ii b11), .row 23 0 false [], .row 4 0 false []]⟩) spec_l13Reduce.l1 H (cI [.old 0, .old 820] [.old 0, .old 820, .old 2, .old 3] [.old 0, .old 820, .old 2, .old 3]) ?_
   clear H
   intro k b0 b1 b2 b3 b11 b12 L1 hk H hL1
   rw [spec_l13Reduce.l1] at H
   refine brI H ?_ ?_ <;> clear H <;> intro _ H
   ·refine L8 (fun c0 c1 c2 c3 c9 c11 c12 c13 => ⟨asl [(0, .int IntKind.i64 c0), (1, .int IntKind.i64 c1), (2, .lit c2.length (iis c2)), (3, .lit c3.length (bb c3)), (8, .ptr 0 0), (9, R 1 c9.length), (11, R 2 c11.length), (12, .int IntKind.i64 c12), (13, .int IntKind.i64 c13)], hp [.box 29 [.int IntKind.i64 0, .int IntKind.i64 0, R 3 0, R 4 0], .row 23 0 false (ois 3 c9), .row 3 0 false (ii c11), .row 23 0 false [], .row 4 0 false []]⟩) spec_l13Reduce.l2 H (cI [.old 0, .old 932, .old 1] [.old 0, .old 932, .old 1, .old 2, .old 3] [.old 0, .old 932, .old 1, .old 2, .old 3]) ?_
    clear H
    intro k c0 c1 c2 c3 c9 c11 c12 c13 L2 hk H hL2
    rw [spec_l13Reduce.l2] at H
    refine brI H ?_ ?_ <;> clear H <;> intro _ H
    ·replace H := oA H
     obtain ⟨_, H⟩ := H
     replace H := oA H
     obtain ⟨_, H⟩ := H
     refine aA ?_
     refine exI ?_
     refine L10 (fun d0 d1 d2 d3 d9 d11 d12 d13 d14 d15 => ⟨asl [(0, .int IntKind.i64 d0), (1, .int IntKind.i64 d1), (2, .lit d2.length (iis d2)), (3, .lit d3.length (bb d3)), (8, .ptr 0 0), (9, R 1 d9.length), (11, R 2 d11.length), (12, .int IntKind.i64 d12), (13, .int IntKind.i64 d13), (14, R 3 d14.length), (15, .int IntKind.i64 d15)], hp [.box 29 [.int IntKind.i64 0, .int IntKind.i64 0, R 4 0, R 5 0], .row 23 0 false (ois 3 d9), .row 3 0 false (ii d11), .row 3 0 false (ii d14), .row 23 0 false [], .row 4 0 false []]⟩) spec_l13Reduce.l3 H (cI [.old 0, .old 1, .old 2, .old 1108] [.old 0, .old 1, .old 2, .old 1108, .old 3, .old 4] [.old 0, .old 1, .old 2, .old 1108, .old 3, .old 4]) ?_
     clear H
     intro k d0 d1 d2 d3 d9 d11 d12 d13 d14 d15 L3 hk H hL3
     rw [spec_l13Reduce.l3] at H
     replace H := oA H
     obtain ⟨_, H⟩ := H
     replace H := oA H
     obtain ⟨_, H⟩ := H
     refine aA ?_
     refine exR ?_
     refine brI H ?_ ?_ <;> clear H <;> intro _ H
     ·replace H := oA H
      obtain ⟨_, H⟩ := H
      replace H := oA H
      obtain ⟨_, H⟩ := H
      replace H := oA H
      obtain ⟨_, H⟩ := H
      replace H := oA H
      obtain ⟨_, H⟩ := H
      refine aA ?_
      refine exR ?_
      refine aA ?_
      refine exI ?_
      refine aA ?_
      refine exI ?_
      refine aA ?_
      refine aA ?_
      refine apI ?_
      exact hL3 _ _ _ _ _ _ _ _ _ _ _ _ H (by omega) (cI [.old 0, .old 1, .old 2, .old 3] [.old 0, .old 1, .old 2, .old 3, .old 4, .old 5] [.old 0, .old 1, .old 2, .old 3, .old 4, .old 5])
     ·replace H := oA H
      obtain ⟨_, H⟩ := H
      refine aA ?_
      refine apO ?_
      exact hL2 _ _ _ _ _ _ _ _ _ _ H (by omega) (cI [.old 0, .old 1, .old 2] [.old 0, .old 1, .old 2, .old 4, .old 5] [.old 0, .old 1, .old 2, .old 4, .old 5])
    ·replace H := oC H
     obtain ⟨_, C1, H⟩ := H
     replace H := oC H
     obtain ⟨_, C2, H⟩ := H
     refine Exists.intro _ (And.intro (spec_l4Number.pr C1) ?_)
     refine Exists.intro _ (And.intro (spec_l3Same.pr C2) ?_)
     refine brI H ?_ ?_ <;> clear H <;> intro _ H
     ·exact hL1 _ _ _ _ _ _ _ _ H (by omega) (cI [.old 0, .old 1556] [.old 0, .old 1556, .old 3, .old 4] [.old 0, .old 1556, .old 3, .old 4])
     ·exact hL1 _ _ _ _ _ _ _ _ H (by omega) (cI [.old 0, .old 1556] [.old 0, .old 1556, .old 3, .old 4] [.old 0, .old 1556, .old 3, .old 4])
   ·refine aA ?_
    refine L9 (fun c2 c3 c11 c18 c19 c533000 c533001 c533002 c533003 => ⟨asl [(2, .lit c2.length (iis c2)), (3, .lit c3.length (bb c3)), (8, .ptr 0 0), (11, R 1 c11.length), (17, .ptr 2 0), (18, R 3 c18.length), (19, .int IntKind.i64 c19)], hp [.box 29 [.int IntKind.i64 0, .int IntKind.i64 0, R 4 0, R 5 0], .row 3 0 false (ii c11), .box 29 [.int IntKind.i64 c533000, .int IntKind.i64 c533001, R 6 c533002.length, R 7 c533003.length], .row 3 0 false (ii c18), .row 23 0 false [], .row 4 0 false [], .row 23 0 false (ois 3 c533002), .row 4 0 false (bb c533003)]⟩) spec_l13Reduce.l4 H (cI [.old 0, .old 1, .old 372, .old 1716] [.old 0, .old 1, .old 372, .old 1716, .old 2, .old 3, .nilB 372 2, .nilB 372 3] [.old 0, .old 1, .old 372, .old 1716, .old 2, .old 3, .nilB 372 2, .nilB 372 3]) ?_
    clear H
    intro k c2 c3 c11 c18 c19 c533000 c533001 c533002 c533003 L2 hk H hL2
    rw [spec_l13Reduce.l4] at H
    refine brI H ?_ ?_ <;> clear H <;> intro _ H
    ·refine L11 (fun d2 d3 d11 d18 d19 d20 d21 d533000 d533001 d533002 d533003 => ⟨asl [(2, .lit d2.length (iis d2)), (3, .lit d3.length (bb d3)), (8, .ptr 0 0), (11, R 1 d11.length), (17, .ptr 2 0), (18, R 3 d18.length), (19, .int IntKind.i64 d19), (20, R 4 d20.length), (21, .int IntKind.i64 d21)], hp [.box 29 [.int IntKind.i64 0, .int IntKind.i64 0, R 5 0, R 6 0], .row 3 0 false (ii d11), .box 29 [.int IntKind.i64 d533000, .int IntKind.i64 d533001, R 7 d533002.length, R 8 d533003.length], .row 3 0 false (ii d18), .row 3 0 false (ii d20), .row 23 0 false [], .row 4 0 false [], .row 23 0 false (ois 3 d533002), .row 4 0 false (bb d533003)]⟩) spec_l13Reduce.l5 H (cI [.old 0, .old 1, .old 2, .old 3, .old 1828] [.old 0, .old 1, .old 2, .old 3, .old 1828, .old 4, .old 5, .old 6, .old 7] [.old 0, .old 1, .old 2, .old 3, .old 1828, .old 4, .old 5, .old 6, .old 7]) ?_
     clear H
     intro k d2 d3 d11 d18 d19 d20 d21 d533000 d533001 d533002 d533003 L3 hk H hL3
     rw [spec_l13Reduce.l5] at H
     replace H := oA H
     obtain ⟨_, H⟩ := H
     replace H := oA H
     obtain ⟨_, H⟩ := H
     replace H := oA H
     obtain ⟨_, H⟩ := H
     replace H := oA H
     obtain ⟨_, H⟩ := H
     refine aA ?_
     refine exI ?_
     refine aA ?_
     refine exR ?_
     refine brI H ?_ ?_ <;> clear H <;> intro _ H
     ·replace H := oA H
      obtain ⟨_, H⟩ := H
      refine aA ?_
      refine exI ?_
      refine aA ?_
      refine exR ?_
      refine aA ?_
      refine exI ?_
      refine L14 (fun e2 e3 e11 e18 e19 e20 e21 e22 e23 e24 e533000 e533001 e533002 e533003 => ⟨asl [(2, .lit e2.length (iis e2)), (3, .lit e3.length (bb e3)), (8, .ptr 0 0), (11, R 1 e11.length), (17, .ptr 2 0), (18, R 3 e18.length), (19, .int IntKind.i64 e19), (20, R 4 e20.length), (21, .int IntKind.i64 e21), (22, .int IntKind.i64 e22), (23, .int IntKind.i64 e23), (24, .int IntKind.i64 e24)], hp [.box 29 [.int IntKind.i64 0, .int IntKind.i64 0, R 5 0, R 6 0], .row 3 0 false (ii e11), .box 29 [.int IntKind.i64 e533000, .int IntKind.i64 e533001, R 7 e533002.length, R 8 e533003.length], .row 3 0 false (ii e18), .row 3 0 false (ii e20), .row 23 0 false [], .row 4 0 false [], .row 23 0 false (ois 3 e533002), .row 4 0 false (bb e533003)]⟩) spec_l13Reduce.l6 H (cI [.old 0, .old 1, .old 2, .old 3, .old 4] [.old 0, .old 1, .old 2, .old 3, .old 4, .old 5, .old 6, .old 7, .old 8] [.old 0, .old 1, .old 2, .old 3, .old 4, .old 5, .old 6, .old 7, .old 8]) ?_
      clear H
      intro k e2 e3 e11 e18 e19 e20 e21 e22 e23 e24 e533000 e533001 e533002 e533003 L4 hk H hL4
      rw [spec_l13Reduce.l6] at H
      refine brI H ?_ ?_ <;> clear H <;> intro _ H
      ·rcases k with _ | k
       · cases H
       rw [spec_l13Reduce.j7] at H
       refine brT ?_
       refine brT ?_
       refine brI H ?_ ?_ <;> clear H <;> intro _ H
       ·replace H := oA H
        obtain ⟨_, H⟩ := H
        replace H := oA H
        obtain ⟨_, H⟩ := H
        replace H := oA H
        obtain ⟨_, H⟩ := H
        replace H := oA H
        obtain ⟨_, H⟩ := H
        replace H := oA H
        obtain ⟨_, H⟩ := H
        replace H := oA H
        obtain ⟨_, H⟩ := H
        refine aA ?_
        refine exI ?_
        refine aA ?_
        refine exI ?_
        refine aA ?_
        refine exI ?_
        refine brI H ?_ ?_ <;> clear H <;> intro _ H
        ·exact hL4 _ _ _ _ _ _ _ _ _ _ _ _ _ _ _ _ H (by omega) (cI [.old 0, .old 1, .old 2, .old 3, .old 4] [.old 0, .old 1, .old 2, .old 3, .old 4, .old 5, .old 6, .old 7, .old 8] [.old 0, .old 1, .old 2, .old 3, .old 4, .old 5, .old 6, .old 7, .old 8])
        ·exact hL4 _ _ _ _ _ _ _ _ _ _ _ _ _ _ _ _ H (by omega) (cI [.old 0, .old 1, .old 2, .old 3, .old 4] [.old 0, .old 1, .old 2, .old 3, .old 4, .old 5, .old 6, .old 7, .old 8] [.old 0, .old 1, .old 2, .old 3, .old 4, .old 5, .old 6, .old 7, .old 8])
       ·refine brI H ?_ ?_ <;> clear H <;> intro _ H
        ·replace H := oA H
         obtain ⟨_, H⟩ := H
         replace H := oA H
         obtain ⟨_, H⟩ := H
         refine aA ?_
         refine aA ?_
         refine apI ?_
         refine aA ?_
         refine aA ?_
         refine apI ?_
         exact hL3 _ _ _ _ _ _ _ _ _ _ _ _ _ H (by omega) (cI [.old 0, .old 1, .old 2, .old 3, .old 4] [.old 0, .old 1, .old 2, .old 3, .old 4, .old 5, .old 6, .old 7, .old 8] [.old 0, .old 1, .old 2, .old 3, .old 4, .old 5, .old 6, .old 7, .old 8])
        ·replace H := oA H
         obtain ⟨_, H⟩ := H
         refine aA ?_
         refine aA ?_
         refine apI ?_
         exact hL3 _ _ _ _ _ _ _ _ _ _ _ _ _ H (by omega) (cI [.old 0, .old 1, .old 2, .old 3, .old 4] [.old 0, .old 1, .old 2, .old 3, .old 4, .old 5, .old 6, .old 7, .old 8] [.old 0, .old 1, .old 2, .old 3, .old 4, .old 5, .old 6, .old 7, .old 8])
      ·rcases k with _ | k
       · cases H
       rw [spec_l13Reduce.j7] at H
       replace H := oF H
       refine brF ?_
       refine brF ?_
       refine brF ?_
       refine brI H ?_ ?_ <;> clear H <;> intro _ H
       ·replace H := oA H
        obtain ⟨_, H⟩ := H
        replace H := oA H
        obtain ⟨_, H⟩ := H
        refine aA ?_
        refine aA ?_
        refine apI ?_
        refine aA ?_
        refine aA ?_
        refine apI ?_
        exact hL3 _ _ _ _ _ _ _ _ _ _ _ _ _ H (by omega) (cI [.old 0, .old 1, .old 2, .old 3, .old 4] [.old 0, .old 1, .old 2, .old 3, .old 4, .old 5, .old 6, .old 7, .old 8] [.old 0, .old 1, .old 2, .old 3, .old 4, .old 5, .old 6, .old 7, .old 8])
       ·replace H := oA H
        obtain ⟨_, H⟩ := H
        refine aA ?_
        refine aA ?_
        refine apI ?_
        exact hL3 _ _ _ _ _ _ _ _ _ _ _ _ _ H (by omega) (cI [.old 0, .old 1, .old 2, .old 3, .old 4] [.old 0, .old 1, .old 2, .old 3, .old 4, .old 5, .old 6, .old 7, .old 8] [.old 0, .old 1, .old 2, .old 3, .old 4, .old 5, .old 6, .old 7, .old 8])
     ·replace H := oA H
      obtain ⟨_, H⟩ := H
      replace H := oA H
      obtain ⟨_, H⟩ := H
      replace H := oA H
      obtain ⟨_, H⟩ := H
      refine exV ?_
      refine aA ?_
      refine apO ?_
      refine aA ?_
      refine exV ?_
      refine aA ?_
      refine exI ?_
      refine aA ?_
      refine exB ?_
      refine aA ?_
      refine aA ?_
      refine apB ?_
      refine aA ?_
      exact hL2 _ _ _ _ _ _ _ _ _ _ _ H (by omega) (cI [.old 0, .old 1, .old 2, .old 3] [.old 0, .old 1, .old 2, .old 3, .old 5, .old 6, .old 7, .old 8] [.old 0, .old 1, .old 2, .old 3, .old 5, .old 6, .old 7, .old 8])
    ·refine leE ?_
     refine aA ?_
     refine aA ?_
     refine leE ?_
     refine aA ?_
     exact E H
/-! spec_l14Both -/
noncomputable def lv48 : Nat → List Nat := atL [(0, [2, 3, 4, 6, 8, 9, 10, 11, 12]), (2, [2, 3, 4, 6, 8, 9, 10, 11, 12, 13, 14, 15, 16])]
noncomputable def dr48 : Nat → Dr := atD [(11, ⟨[], line [0, 1, 2, 3, 4, 5, 6, 7, 8]⟩), (12, ⟨[], line [0, 1, 2, 3, 4, 5, 6, 7, 8]⟩), (17, ⟨[], line [0, 1, 2, 3, 4, 5, 6, 7, 8, 9, 10, 11, 12, 13, 14, 15, 16, 17, 18, 19, 20, 21]⟩)]
theorem ok48 : bodyOk dr48 Try.f48 = true := by kernel_rfl
set_option maxHeartbeats 8000000 in
theorem spec_l14Both.pr {k : Nat} {a0_0 : Int} {a0_1 : Int} {l0_2 : List (List Int)} {l0_3 : List Bool} {a1_0 : Int} {a1_1 : Int} {l1_2 : List (List Int)} {l1_3 : List Bool} {a2 : Bool} {r : (Int × Int × (List (List Int)) × List Bool × Bool)} {n0 : Nat} {c0 : List AV} {n1 : Nat} {n2 : Nat} {c2 : List AV} {n3 : Nat} (H : spec_l14Both.f k a0_0 a0_1 l0_2 l0_3 a1_0 a1_1 l1_2 l1_3 a2 = some r) (hn0 : n0 = l0_2.length := by exact ln) (hc0 : mapR view c0 = iis l0_2 := by exact vw) (hn1 : n1 = l0_3.length := by exact ln) (hn2 : n2 = l1_2.length := by exact ln) (hc2 : mapR view c2 = iis l1_2 := by exact vw) (hn3 : n3 = l1_3.length := by exact ln) : Promise Try.prog tb 48 [.agg [.int .i64 a0_0, .int .i64 a0_1, .lit n0 c0, .lit n1 (bb l0_3)], .agg [.int .i64 a1_0, .int .i64 a1_1, .lit n2 c2, .lit n3 (bb l1_3)], .bool a2] (.tup [.agg [.int .i64 r.1, .int .i64 r.2.1, .own 23 r.2.2.1.length (ois 3 r.2.2.1), .own 4 r.2.2.2.1.length (bb r.2.2.2.1)], .bool r.2.2.2.2]) := by
  subst hn0
  subst hn1
  subst hn2
  subst hn3
  refine Promise.weak (.cons (weak_agg (.cons (Weak.refl _) <| .cons (Weak.refl _) <| .cons (weak_lit hc0) <| .cons (Weak.refl _) <| .nil)) <| .cons (weak_agg (.cons (Weak.refl _) <| .cons (Weak.refl _) <| .cons (weak_lit hc2) <| .cons (Weak.refl _) <| .nil)) <| .cons (Weak.refl _) <| .nil) ?_
  have E := @reF _ (fun r : (Int × Int × (List (List Int)) × List Bool × Bool) => .tup [.agg [.int .i64 r.1, .int .i64 r.2.1, .own 23 r.2.2.1.length (ois 3 r.2.2.1), .own 4 r.2.2.2.1.length (bb r.2.2.2.1)], .bool r.2.2.2.2]) r
  refine promise_body tb_ok rfl lv48 dr48 Try.func48 ok48 rfl ?_
  unfold spec_l14Both.f at H
  replace H := oC H
  obtain ⟨_, C0, H⟩ := H
  refine aA ?_
  refine aA ?_
  refine leE ?_
  refine aA ?_
  refine Exists.intro _ (And.intro (spec_IsRelation.pr C0) ?_)
  refine brN H ?_ ?_ <;> clear H <;> intro _ H
  ·rcases k with _ | k
   · cases H
   rw [spec_l14Both.j0] at H
   replace H := oT H
   refine brT ?_
   refine brT ?_
   refine brT ?_
   refine brT ?_
   refine brT ?_
   refine brT ?_
   refine brT ?_
   refine brT ?_
   refine brT ?_
   refine brT ?_
   refine brT ?_
   refine brT ?_
   refine brT ?_
   refine brT ?_
   refine brT ?_
   refine brT ?_
   refine aA ?_
   refine leE ?_
   refine aA ?_
   exact E H
  ·replace H := oC H
   obtain ⟨_, C1, H⟩ := H
   refine leE ?_
   refine aA ?_
   refine brF ?_
   refine Exists.intro _ (And.intro (spec_IsRelation.pr C1) ?_)
   refine brF ?_
   refine brF ?_
   refine brN H ?_ ?_ <;> clear H <;> intro _ H
   ·rcases k with _ | k
    · cases H
    rw [spec_l14Both.j0] at H
    replace H := oT H
    refine brT ?_
    refine brT ?_
    refine brT ?_
    refine brT ?_
    refine brT ?_
    refine brT ?_
    refine brT ?_
    refine brT ?_
    refine brT ?_
    refine brT ?_
    refine brT ?_
    refine brT ?_
    refine aA ?_
    refine leE ?_
    refine aA ?_
    exact E H
   ·refine brF ?_
    refine exV ?_
    refine brF ?_
    refine brF ?_
    refine exV ?_
    refine brF ?_
    refine brF ?_
    refine brN H ?_ ?_ <;> clear H <;> intro _ H
    ·rcases k with _ | k
     · cases H
     rw [spec_l14Both.j0] at H
     replace H := oT H
     refine brT ?_
     refine brT ?_
     refine brT ?_
     refine brT ?_
     refine brT ?_
     refine brT ?_
     refine aA ?_
     refine leE ?_
     refine aA ?_
     exact E H
    ·rcases k with _ | k
     · cases H
     rw [spec_l14Both.j0] at H
     refine brF ?_
     refine exV ?_
     refine brF ?_
     refine brF ?_
     refine exV ?_
     refine brF ?_
     refine brF ?_
     refine brI H ?_ ?_ <;> clear H <;> intro _ H
     ·refine aA ?_
      refine leE ?_
      refine aA ?_
      exact E H
     ·replace H := oA H
      obtain ⟨_, H⟩ := H
      replace H := oA H
      obtain ⟨_, H⟩ := H
      replace H := oD H
      replace H := oA H
      obtain ⟨_, H⟩ := H
      refine exV ?_
      refine exV ?_
      refine aA ?_
      refine aA ?_
      refine mkI ?_
      refine aA ?_
      refine aA ?_
      refine seI ?_
      refine L14 (fun a2 a8 a9 a10 a11 a12 a204000 a204001 a204002 a204003 a205000 a205001 a205002 a205003 => ⟨asl [(2, .bool a2), (3, .ptr 0 0), (4, .ptr 1 0), (6, .ptr 2 0), (8, R 3 a8.length), (9, R 4 a9.length), (10, R 5 a10.length), (11, R 6 a11.length), (12, .int IntKind.i64 a12)], hp [.box 29 [.int IntKind.i64 a204000, .int IntKind.i64 a204001, .lit a204002.length (iis a204002), .lit a204003.length (bb a204003)], .box 29 [.int IntKind.i64 a205000, .int IntKind.i64 a205001, .lit a205002.length (iis a205002), .lit a205003.length (bb a205003)], .box 29 [.int IntKind.i64 0, .int IntKind.i64 0, R 7 0, R 8 0], .row 23 0 false (ois 3 a8), .row 4 0 false (bb a9), .row 3 0 false (ii a10), .row 3 0 false (ii a11), .row 23 0 false [], .row 4 0 false []]⟩) spec_l14Both.l0 H (cI [.old 148, .old 164, .old 196, .old 772, .old 788, .old 916, .old 932] [.old 148, .old 164, .old 196, .old 772, .old 788, .old 916, .old 932, .nilB 196 2, .nilB 196 3] [.old 148, .old 164, .old 196, .old 772, .old 788, .old 916, .old 932, .nilB 196 2, .nilB 196 3]) ?_
      clear H
      intro k a2 a8 a9 a10 a11 a12 a204000 a204001 a204002 a204003 a205000 a205001 a205002 a205003 L0 hk H hL0
      rw [spec_l14Both.l0] at H
      refine brI H ?_ ?_ <;> clear H <;> intro _ H
      ·replace H := oA H
       obtain ⟨_, H⟩ := H
       replace H := oB H
       obtain ⟨_, H⟩ := H
       refine aA ?_
       refine exI ?_
       refine exV ?_
       refine aA ?_
       refine aA ?_
       refine exI ?_
       refine exV ?_
       refine aA ?_
       refine L18 (fun b2 b8 b9 b10 b11 b12 b13 b14 b15 b16 b204000 b204001 b204002 b204003 b205000 b205001 b205002 b205003 => ⟨asl [(2, .bool b2), (3, .ptr 0 0), (4, .ptr 1 0), (6, .ptr 2 0), (8, R 3 b8.length), (9, R 4 b9.length), (10, R 5 b10.length), (11, R 6 b11.length), (12, .int IntKind.i64 b12), (13, .int IntKind.i64 b13), (14, .int IntKind.i64 b14), (15, R 7 b15.length), (16, .int IntKind.i64 b16)], hp [.box 29 [.int IntKind.i64 b204000, .int IntKind.i64 b204001, .lit b204002.length (iis b204002), .lit b204003.length (bb b204003)], .box 29 [.int IntKind.i64 b205000, .int IntKind.i64 b205001, .lit b205002.length (iis b205002), .lit b205003.length (bb b205003)], .box 29 [.int IntKind.i64 0, .int IntKind.i64 0, R 8 0, R 9 0], .row 23 0 false (ois 3 b8), .row 4 0 false (bb b9), .row 3 0 false (ii b10), .row 3 0 false (ii b11), .row 3 0 false (ii b15), .row 23 0 false [], .row 4 0 false []]⟩) spec_l14Both.l1 H (cI [.old 0, .old 1, .old 2, .old 3, .old 4, .old 5, .old 6, .old 1332] [.old 0, .old 1, .old 2, .old 3, .old 4, .old 5, .old 6, .old 1332, .old 7, .old 8] [.old 0, .old 1, .old 2, .old 3, .old 4, .old 5, .old 6, .old 1332, .old 7, .old 8]) ?_
       clear H
       intro k b2 b8 b9 b10 b11 b12 b13 b14 b15 b16 b204000 b204001 b204002 b204003 b205000 b205001 b205002 b205003 L1 hk H hL1
       rw [spec_l14Both.l1] at H
       replace H := oA H
       obtain ⟨_, H⟩ := H
       replace H := oA H
       obtain ⟨_, H⟩ := H
       refine exV ?_
       refine aA ?_
       refine exR ?_
       refine brI H ?_ ?_ <;> clear H <;> intro _ H
       ·replace H := oA H
        obtain ⟨_, H⟩ := H
        replace H := oA H
        obtain ⟨_, H⟩ := H
        replace H := oA H
        obtain ⟨_, H⟩ := H
        replace H := oA H
        obtain ⟨_, H⟩ := H
        replace H := oA H
        obtain ⟨_, H⟩ := H
        replace H := oA H
        obtain ⟨_, H⟩ := H
        refine exV ?_
        refine aA ?_
        refine exR ?_
        refine aA ?_
        refine exI ?_
        refine exV ?_
        refine exV ?_
        refine aA ?_
        refine exR ?_
        refine aA ?_
        refine exI ?_
        refine aA ?_
        refine exI ?_
        refine brI H ?_ ?_ <;> clear H <;> intro _ H
        ·replace H := oA H
         obtain ⟨_, H⟩ := H
         replace H := oD H
         replace H := oD H
         replace H := oA H
         obtain ⟨_, H⟩ := H
         refine aA ?_
         refine aA ?_
         refine apI ?_
         refine aA ?_
         refine aA ?_
         refine seI ?_
         refine aA ?_
         refine exI ?_
         refine aA ?_
         refine aA ?_
         refine apI ?_
         exact hL1 _ _ _ _ _ _ _ _ _ _ _ _ _ _ _ _ _ _ _ _ H (by omega) (cI [.old 0, .old 1, .old 2, .old 3, .old 4, .old 5, .old 6, .old 7] [.old 0, .old 1, .old 2, .old 3, .old 4, .old 5, .old 6, .old 7, .old 8, .old 9] [.old 0, .old 1, .old 2, .old 3, .old 4, .old 5, .old 6, .old 7, .old 8, .old 9])
        ·replace H := oA H
         obtain ⟨_, H⟩ := H
         refine aA ?_
         refine exI ?_
         refine aA ?_
         refine aA ?_
         refine apI ?_
         exact hL1 _ _ _ _ _ _ _ _ _ _ _ _ _ _ _ _ _ _ _ _ H (by omega) (cI [.old 0, .old 1, .old 2, .old 3, .old 4, .old 5, .old 6, .old 7] [.old 0, .old 1, .old 2, .old 3, .old 4, .old 5, .old 6, .old 7, .old 8, .old 9] [.old 0, .old 1, .old 2, .old 3, .old 4, .old 5, .old 6, .old 7, .old 8, .old 9])
       ·replace H := oA H
        obtain ⟨_, H⟩ := H
        replace H := oD H
        refine aA ?_
        refine apO ?_
        refine brI H ?_ ?_ <;> clear H <;> intro _ H
        ·replace H := oA H
         obtain ⟨_, H⟩ := H
         refine exV ?_
         refine aA ?_
         refine exB ?_
         refine brI H ?_ ?_ <;> clear H <;> intro _ H
         ·replace H := oA H
          obtain ⟨_, H⟩ := H
          refine brT ?_
          refine brT ?_
          refine brT ?_
          refine brT ?_
          refine brT ?_
          refine aA ?_
          refine aA ?_
          refine apB ?_
          exact hL0 _ _ _ _ _ _ _ _ _ _ _ _ _ _ _ _ H (by omega) (cI [.old 0, .old 1, .old 2, .old 3, .old 4, .old 5, .old 6] [.old 0, .old 1, .old 2, .old 3, .old 4, .old 5, .old 6, .old 8, .old 9] [.old 0, .old 1, .old 2, .old 3, .old 4, .old 5, .old 6, .old 8, .old 9])
         ·replace H := oA H
          obtain ⟨_, H⟩ := H
          replace H := oA H
          obtain ⟨_, H⟩ := H
          replace H := oA H
          obtain ⟨_, H⟩ := H
          refine brF ?_
          refine exV ?_
          refine brF ?_
          refine brF ?_
          refine aA ?_
          refine brF ?_
          refine exB ?_
          refine brF ?_
          refine aA ?_
          refine aA ?_
          refine apB ?_
          exact hL0 _ _ _ _ _ _ _ _ _ _ _ _ _ _ _ _ H (by omega) (cI [.old 0, .old 1, .old 2, .old 3, .old 4, .old 5, .old 6] [.old 0, .old 1, .old 2, .old 3, .old 4, .old 5, .old 6, .old 8, .old 9] [.old 0, .old 1, .old 2, .old 3, .old 4, .old 5, .old 6, .old 8, .old 9])
        ·replace H := oA H
         obtain ⟨_, H⟩ := H
         refine exV ?_
         refine aA ?_
         refine exB ?_
         refine brI H ?_ ?_ <;> clear H <;> intro _ H
         ·replace H := oA H
          obtain ⟨_, H⟩ := H
          replace H := oA H
          obtain ⟨_, H⟩ := H
          replace H := oA H
          obtain ⟨_, H⟩ := H
          refine brT ?_
          refine exV ?_
          refine brT ?_
          refine brT ?_
          refine aA ?_
          refine brT ?_
          refine exB ?_
          refine brT ?_
          refine aA ?_
          refine aA ?_
          refine apB ?_
          exact hL0 _ _ _ _ _ _ _ _ _ _ _ _ _ _ _ _ H (by omega) (cI [.old 0, .old 1, .old 2, .old 3, .old 4, .old 5, .old 6] [.old 0, .old 1, .old 2, .old 3, .old 4, .old 5, .old 6, .old 8, .old 9] [.old 0, .old 1, .old 2, .old 3, .old 4, .old 5, .old 6, .old 8, .old 9])
         ·replace H := oA H
          obtain ⟨_, H⟩ := H
          refine brF ?_
          refine brF ?_
          refine brF ?_
          refine brF ?_
          refine brF ?_
          refine aA ?_
          refine aA ?_
          refine apB ?_
          exact hL0 _ _ _ _ _ _ _ _ _ _ _ _ _ _ _ _ H (by omega) (cI [.old 0, .old 1, .old 2, .old 3, .old 4, .old 5, .old 6] [.old 0, .old 1, .old 2, .old 3, .old 4, .old 5, .old 6, .old 8, .old 9] [.old 0, .old 1, .old 2, .old 3, .old 4, .old 5, .old 6, .old 8, .old 9])
      ·replace H := oC H
       obtain ⟨_, C2, H⟩ := H
       refine exV ?_
       refine exV ?_
       refine Exists.intro _ (And.intro (spec_l13Reduce.pr C2) ?_)
       refine aA ?_
       refine exV ?_
       refine brI H ?_ ?_ <;> clear H <;> intro _ H
       ·refine aA ?_
        refine leE ?_
        refine aA ?_
        exact E H
       ·refine leE ?_
        refine aA ?_
        refine aA ?_
        refine leE ?_
        refine aA ?_
        exact E H
/-! spec_BothRelations -/
noncomputable def lv19 : Nat → List Nat := atL []
noncomputable def dr19 : Nat → Dr := atD []
theorem ok19 : bodyOk dr19 Try.f19 = true := by kernel_rfl
set_option maxHeartbeats 8000000 in
theorem spec_BothRelations.pr {k : Nat} {a0_0 : Int} {a0_1 : Int} {l0_2 : List (List Int)} {l0_3 : List Bool} {a1_0 : Int} {a1_1 : Int} {l1_2 : List (List Int)} {l1_3 : List Bool} {r : (Int × Int × (List (List Int)) × List Bool × Bool)} {n0 : Nat} {c0 : List AV} {n1 : Nat} {n2 : Nat} {c2 : List AV} {n3 : Nat} (H : spec_BothRelations.f k a0_0 a0_1 l0_2 l0_3 a1_0 a1_1 l1_2 l1_3 = some r) (hn0 : n0 = l0_2.length := by exact ln) (hc0 : mapR view c0 = iis l0_2 := by exact vw) (hn1 : n1 = l0_3.length := by exact ln) (hn2 : n2 = l1_2.length := by exact ln) (hc2 : mapR view c2 = iis l1_2 := by exact vw) (hn3 : n3 = l1_3.length := by exact ln) : Promise Try.prog tb 19 [.agg [.int .i64 a0_0, .int .i64 a0_1, .lit n0 c0, .lit n1 (bb l0_3)], .agg [.int .i64 a1_0, .int .i64 a1_1, .lit n2 c2, .lit n3 (bb l1_3)]] (.tup [.agg [.int .i64 r.1, .int .i64 r.2.1, .own 23 r.2.2.1.length (ois 3 r.2.2.1), .own 4 r.2.2.2.1.length (bb r.2.2.2.1)], .bool r.2.2.2.2]) := by
  subst hn0
  subst hn1
  subst hn2
  subst hn3
  refine Promise.weak (.cons (weak_agg (.cons (Weak.refl _) <| .cons (Weak.refl _) <| .cons (weak_lit hc0) <| .cons (Weak.refl _) <| .nil)) <| .cons (weak_agg (.cons (Weak.refl _) <| .cons (Weak.refl _) <| .cons (weak_lit hc2) <| .cons (Weak.refl _) <| .nil)) <| .nil) ?_
  have E := @reF _ (fun r : (Int × Int × (List (List Int)) × List Bool × Bool) => .tup [.agg [.int .i64 r.1, .int .i64 r.2.1, .own 23 r.2.2.1.length (ois 3 r.2.2.1), .own 4 r.2.2.2.1.length (bb r.2.2.2.1)], .bool r.2.2.2.2]) r
  refine promise_body tb_ok rfl lv19 dr19 Try.func19 ok19 rfl ?_
  unfold spec_BothRelations.f at H
  replace H := oC H
  obtain ⟨_, C0, H⟩ := H
  refine aA ?_
  refine aA ?_
  refine leE ?_
  refine aA ?_
  refine leE ?_
  refine aA ?_
  refine Exists.intro _ (And.intro (spec_l14Both.pr C0) ?_)
  refine exV ?_
  refine exV ?_
  refine aA ?_
  refine leE ?_
  refine aA ?_
  refine aA ?_
  refine leE ?_
  refine aA ?_
  exact E H
/-! laws_toIntS -/
noncomputable def lv35 : Nat → List Nat := atL [(0, [0, 3, 4])]
noncomputable def dr35 : Nat → Dr := atD []
theorem ok35 : bodyOk dr35 Try.f35 = true := by kernel_rfl
set_option maxHeartbeats 8000000 in
theorem laws_toIntS.pr {k : Nat} {l0 : List Int} {r : (List Int)} {n0 : Nat} (H : laws_toIntS.f k l0 = some r) (hn0 : n0 = l0.length := by exact ln) : Promise Try.prog tb 35 [.lit n0 (ii l0)] (.own 3 r.length (ii r)) := by
  subst hn0
  have E := @reF _ (fun r : (List Int) => .own 3 r.length (ii r)) r
  refine promise_body tb_ok rfl lv35 dr35 Try.func35 ok35 rfl ?_
  unfold laws_toIntS.f at H
  replace H := oA H
  obtain ⟨_, H⟩ := H
  replace H := oA H
  obtain ⟨_, H⟩ := H
  refine aA ?_
  refine aA ?_
  refine mkI ?_
  refine L3 (fun a0 a3 a4 => ⟨asl [(0, .lit a0.length (ii a0)), (3, R 0 a3.length), (4, .int IntKind.i64 a4)], hp [.row 3 0 false (ii a3)]⟩) laws_toIntS.l0 H (cI [.old 212] [.old 212] [.old 212]) ?_
  clear H
  intro k a0 a3 a4 L0 hk H hL0
  rw [laws_toIntS.l0] at H
  refine brI H ?_ ?_ <;> clear H <;> intro _ H
  ·replace H := oA H
   obtain ⟨_, H⟩ := H
   replace H := oA H
   obtain ⟨_, H⟩ := H
   refine aA ?_
   refine exI ?_
   refine aA ?_
   refine aA ?_
   refine seI ?_
   exact hL0 _ _ _ _ _ H (by omega) (cI [.old 0] [.old 0] [.old 0])
  ·exact E H
/-! laws_toIntSS -/
noncomputable def lv34 : Nat → List Nat := atL [(0, [0, 3, 4])]
noncomputable def dr34 : Nat → Dr := atD []
theorem ok34 : bodyOk dr34 Try.f34 = true := by kernel_rfl
set_option maxHeartbeats 8000000 in
theorem laws_toIntSS.pr {k : Nat} {l0 : List (List Int)} {r : ((List (List Int)))} {n0 : Nat} {c0 : List AV} (H : laws_toIntSS.f k l0 = some r) (hn0 : n0 = l0.length := by exact ln) (hc0 : mapR view c0 = iis l0 := by exact vw) : Promise Try.prog tb 34 [.lit n0 c0] (.own 23 r.length (ois 3 r)) := by
  subst hn0
  refine Promise.weak (.cons (weak_lit hc0) <| .nil) ?_
  have E := @reF _ (fun r : ((List (List Int))) => .own 23 r.length (ois 3 r)) r
  refine promise_body tb_ok rfl lv34 dr34 Try.func34 ok34 rfl ?_
  unfold laws_toIntSS.f at H
  replace H := oA H
  obtain ⟨_, H⟩ := H
  replace H := oA H
  obtain ⟨_, H⟩ := H
  refine aA ?_
  refine aA ?_
  refine mkO ?_
  refine L3 (fun a0 a3 a4 => ⟨asl [(0, .lit a0.length (iis a0)), (3, R 0 a3.length), (4, .int IntKind.i64 a4)], hp [.row 23 0 false (ois 3 a3)]⟩) laws_toIntSS.l0 H (cI [.old 212] [.old 212] [.old 212]) ?_
  clear H
  intro k a0 a3 a4 L0 hk H hL0
  rw [laws_toIntSS.l0] at H
  refine brI H ?_ ?_ <;> clear H <;> intro _ H
  ·replace H := oA H
   obtain ⟨_, H⟩ := H
   replace H := oC H
   obtain ⟨_, C0, H⟩ := H
   replace H := oA H
   obtain ⟨_, H⟩ := H
   refine aA ?_
   refine exR ?_
   refine Exists.intro _ (And.intro (laws_toIntS.pr C0) ?_)
   refine aA ?_
   refine aA ?_
   refine seO ?_
   exact hL0 _ _ _ _ _ H (by omega) (cI [.old 0] [.old 0] [.old 0])
  ·exact E H
/-! laws_toBoolS -/
noncomputable def lv49 : Nat → List Nat := atL [(0, [0, 3, 4])]
noncomputable def dr49 : Nat → Dr := atD []
theorem ok49 : bodyOk dr49 Try.f49 = true := by kernel_rfl
set_option maxHeartbeats 8000000 in
theorem laws_toBoolS.pr {k : Nat} {l0 : List Bool} {r : (List Bool)} {n0 : Nat} (H : laws_toBoolS.f k l0 = some r) (hn0 : n0 = l0.length := by exact ln) : Promise Try.prog tb 49 [.lit n0 (bb l0)] (.own 4 r.length (bb r)) := by
  subst hn0
  have E := @reF _ (fun r : (List Bool) => .own 4 r.length (bb r)) r
  refine promise_body tb_ok rfl lv49 dr49 Try.func49 ok49 rfl ?_
  unfold laws_toBoolS.f at H
  replace H := oA H
  obtain ⟨_, H⟩ := H
  replace H := oA H
  obtain ⟨_, H⟩ := H
  refine aA ?_
  refine aA ?_
  refine mkB ?_
  refine L3 (fun a0 a3 a4 => ⟨asl [(0, .lit a0.length (bb a0)), (3, R 0 a3.length), (4, .int IntKind.i64 a4)], hp [.row 4 0 false (bb a3)]⟩) laws_toBoolS.l0 H (cI [.old 212] [.old 212] [.old 212]) ?_
  clear H
  intro k a0 a3 a4 L0 hk H hL0
  rw [laws_toBoolS.l0] at H
  refine brI H ?_ ?_ <;> clear H <;> intro _ H
  ·replace H := oA H
   obtain ⟨_, H⟩ := H
   replace H := oA H
   obtain ⟨_, H⟩ := H
   refine aA ?_
   refine exB ?_
   refine aA ?_
   refine aA ?_
   refine seB ?_
   exact hL0 _ _ _ _ _ H (by omega) (cI [.old 0] [.old 0] [.old 0])
  ·exact E H
/-! laws_toRelation -/
noncomputable def lv20 : Nat → List Nat := atL []
noncomputable def dr20 : Nat → Dr := atD []
theorem ok20 : bodyOk dr20 Try.f20 = true := by kernel_rfl
set_option maxHeartbeats 8000000 in
theorem laws_toRelation.pr {k : Nat} {a0_0 : Int} {a0_1 : Int} {l0_2 : List (List Int)} {l0_3 : List Bool} {r : (Int × Int × (List (List Int)) × List Bool)} {n0 : Nat} {c0 : List AV} {n1 : Nat} (H : laws_toRelation.f k a0_0 a0_1 l0_2 l0_3 = some r) (hn0 : n0 = l0_2.length := by exact ln) (hc0 : mapR view c0 = iis l0_2 := by exact vw) (hn1 : n1 = l0_3.length := by exact ln) : Promise Try.prog tb 20 [.agg [.int .i64 a0_0, .int .i64 a0_1, .lit n0 c0, .lit n1 (bb l0_3)]] (.agg [.int .i64 r.1, .int .i64 r.2.1, .own 23 r.2.2.1.length (ois 3 r.2.2.1), .own 4 r.2.2.2.length (bb r.2.2.2)]) := by
  subst hn0
  subst hn1
  refine Promise.weak (.cons (weak_agg (.cons (Weak.refl _) <| .cons (Weak.refl _) <| .cons (weak_lit hc0) <| .cons (Weak.refl _) <| .nil)) <| .nil) ?_
  have E := @reF _ (fun r : (Int × Int × (List (List Int)) × List Bool) => .agg [.int .i64 r.1, .int .i64 r.2.1, .own 23 r.2.2.1.length (ois 3 r.2.2.1), .own 4 r.2.2.2.length (bb r.2.2.2)]) r
  refine promise_body tb_ok rfl lv20 dr20 Try.func20 ok20 rfl ?_
  unfold laws_toRelation.f at H
  replace H := oC H
  obtain ⟨_, C0, H⟩ := H
  replace H := oC H
  obtain ⟨_, C1, H⟩ := H
  refine aA ?_
  refine exV ?_
  refine aA ?_
  refine exV ?_
  refine aA ?_
  refine exV ?_
  refine Exists.intro _ (And.intro (laws_toIntSS.pr C0) ?_)
  refine aA ?_
  refine exV ?_
  refine Exists.intro _ (And.intro (laws_toBoolS.pr C1) ?_)
  refine aA ?_
  refine leE ?_
  refine aA ?_
  refine aA ?_
  refine leE ?_
  refine aA ?_
  exact E H
/-! impl_isSmallBase -/
noncomputable def lv37 : Nat → List Nat := atL []
noncomputable def dr37 : Nat → Dr := atD []
theorem ok37 : bodyOk dr37 Try.f37 = true := by kernel_rfl
set_option maxHeartbeats 8000000 in
theorem impl_isSmallBase.pr {a0 : Int} {r : (Bool)} (H : impl_isSmallBase.f a0 = some r) : Promise Try.prog tb 37 [.int .i64 a0] (.bool r) := by
  have E := @reF _ (fun r : (Bool) => .bool r) r
  refine promise_body tb_ok rfl lv37 dr37 Try.func37 ok37 rfl ?_
  unfold impl_isSmallBase.f at H
  refine brI H ?_ ?_ <;> clear H <;> intro _ H
  ·refine brT ?_
   refine brT ?_
   exact E H
  ·refine brF ?_
   refine brF ?_
   exact E H
/-! impl_power -/
noncomputable def lv60 : Nat → List Nat := atL [(0, [0, 5, 6, 7])]
noncomputable def dr60 : Nat → Dr := atD []
theorem ok60 : bodyOk dr60 Try.f60 = true := by kernel_rfl
set_option maxHeartbeats 8000000 in
theorem impl_power.pr {k : Nat} {a0 : Int} {a1 : Int} {r : (Int)} (H : impl_power.f k a0 a1 = some r) : Promise Try.prog tb 60 [.int .i64 a0, .int .i64 a1] (.int .i64 r) := by
  have E := @reF _ (fun r : (Int) => .int .i64 r) r
  refine promise_body tb_ok rfl lv60 dr60 Try.func60 ok60 rfl ?_
  unfold impl_power.f at H
  refine L4 (fun a0 a5 a6 a7 => ⟨asl [(0, .int IntKind.i64 a0), (5, .int IntKind.i64 a5), (6, .int IntKind.i64 a6), (7, .int IntKind.i64 a7)], hp []⟩) impl_power.l0 H (cI [] [] []) ?_
  clear H
  intro k a0 a5 a6 a7 L0 hk H hL0
  rw [impl_power.l0] at H
  refine brI H ?_ ?_ <;> clear H <;> intro _ H
  ·exact hL0 _ _ _ _ _ _ H (by omega) (cI [] [] [])
  ·exact E H
end Go.Ev
