/- Walks of functions with the plain evaluator: what each computes -/
import Derived.Test.YtefelghmmpmigaaEh3
import Derived.Test.YtefelghmmpmigaaEx
import Derived.Test.YtefelghmmpmigaaF8
import Derived.Test.YtefelghmmpmigaaW0
import Derived.Test.YtefelghmmpmigaaW2
namespace Go.Ev
open Go.Proofs Go Go.Proofs.YtefelghmmpmigaaW.PrintWords Go.Proofs.Ytefelghmmpmigaa.Q
set_option maxRecDepth 100000
set_option linter.unusedVariables false
attribute [local irreducible] br Loop
/-! impl_ExistsTrack -/
noncomputable def lv25 : Nat → List Nat := atL [(0, [1, 2, 4, 6, 7, 43, 44]), (2, [1, 2, 4, 6, 7, 8, 43, 44, 51]), (4, [1, 2, 4, 10, 11, 12, 13]), (6, [1, 2, 4, 10, 11, 12, 13, 14, 89, 90]), (8, [1, 2, 4, 10, 11, 12, 13, 14, 19, 135, 136, 137])]
noncomputable def dr25 : Nat → Dr := atD [(24, ⟨[(12, 0, [356]), (13, 0, [356])], line [0, 1, 2, 3, 4, 5, 6, 7, 8, 9, 10, 11, 14, 12, 13, 15]⟩)]
theorem ok25 : bodyOk dr25 Try.f25 = true := by kernel_rfl
set_option maxHeartbeats 8000000 in
theorem impl_ExistsTrack.pr {k : Nat} {a0_0 : Int} {a0_1 : Int} {l0_2 : List (List Int)} {l0_3 : List Bool} {a1 : Int} {r : (Int × Int × List (List Int) × List Bool × Bool)} {n0 : Nat} {c0 : List AV} {n1 : Nat} (H : impl_ExistsTrack.f k a0_0 a0_1 l0_2 l0_3 a1 = some r) (hn0 : n0 = l0_2.length := by exact ln) (hc0 : mapR view c0 = iis l0_2 := by exact vw) (hn1 : n1 = l0_3.length := by exact ln) : Promise Try.prog tb 25 [.agg [.int .i64 a0_0, .int .i64 a0_1, .lit n0 c0, .lit n1 (bb l0_3)], .int .i64 a1] (.tup [.agg [.int .i64 r.1, .int .i64 r.2.1, .own 23 r.2.2.1.length (ois 3 r.2.2.1), .own 4 r.2.2.2.1.length (bb r.2.2.2.1)], .bool r.2.2.2.2]) := by
  subst hn0
  subst hn1
  refine Promise.weak (.cons (weak_agg (.cons (Weak.refl _) <| .cons (Weak.refl _) <| .cons (weak_lit hc0) <| .cons (Weak.refl _) <| .nil)) <| .cons (Weak.refl _) <| .nil) ?_
  have E := @reF _ (fun r : (Int × Int × List (List Int) × List Bool × Bool) => .tup [.agg [.int .i64 r.1, .int .i64 r.2.1, .own 23 r.2.2.1.length (ois 3 r.2.2.1), .own 4 r.2.2.2.1.length (bb r.2.2.2.1)], .bool r.2.2.2.2]) r
  refine promise_body tb_ok rfl lv25 dr25 Try.func25 ok25 rfl ?_
  unfold impl_ExistsTrack.f at H
  replace H := oC H
  obtain ⟨_, C0, H⟩ := H
  refine aA ?_
  refine leE ?_
  refine aA ?_
  refine Exists.intro _ (And.intro (impl_IsRelation.pr C0) ?_)
  refine brN H ?_ ?_ <;> clear H <;> intro _ H
  ·refine brT ?_
   refine brT ?_
   refine brT ?_
   refine brT ?_
   refine brT ?_
   refine brT ?_
   refine brT ?_
   refine brT ?_
   refine aA ?_
   refine leE ?_
   refine leE ?_
   refine aA ?_
   exact E H
  ·refine brF ?_
   refine brF ?_
   refine brI H ?_ ?_ <;> clear H <;> intro _ H
   ·refine brT ?_
    refine brT ?_
    refine brT ?_
    refine brT ?_
    refine brT ?_
    refine aA ?_
    refine leE ?_
    refine leE ?_
    refine aA ?_
    exact E H
   ·refine brF ?_
    refine brF ?_
    refine exV ?_
    refine brF ?_
    refine brF ?_
    refine brI H ?_ ?_ <;> clear H <;> intro _ H
    ·refine aA ?_
     refine leE ?_
     refine leE ?_
     refine aA ?_
     exact E H
    ·replace H := oA H
     obtain ⟨_, H⟩ := H
     replace H := oA H
     obtain ⟨_, H⟩ := H
     refine aA ?_
     refine leE ?_
     refine exV ?_
     refine aA ?_
     refine aA ?_
     refine mkI ?_
     refine exV ?_
     refine L9 (fun a1 a902000 a902001 a902002 a902003 aw6 a7 a43 a44 => ⟨asl [(1, .int IntKind.i64 a1), (2, .ptr 0 0), (4, .ptr 1 0), (6, .ptr 2 0), (7, R 3 a7.length), (43, .int IntKind.i64 a43), (44, .int IntKind.i64 a44)], hp [.box 29 [.int IntKind.i64 a902000, .int IntKind.i64 a902001, .lit a902002.length (iis a902002), .lit a902003.length (bb a902003)], .box 29 [.int IntKind.i64 0, .int IntKind.i64 0, R 4 0, R 5 0], .box 68 (arr aw6), .row 3 0 false (ii a7), .row 23 0 false [], .row 4 0 false []]⟩) impl_ExistsTrack.l0 H (cI [.old 132, .old 164, .old 196, .old 740] [.old 132, .old 164, .old 196, .old 740, .nilB 164 2, .nilB 164 3] [.old 132, .old 164, .old 196, .old 740, .nilB 164 2, .nilB 164 3]) ?_
     clear H
     intro k a1 a902000 a902001 a902002 a902003 aw6 a7 a43 a44 L0 hk H hL0
     rw [impl_ExistsTrack.l0] at H
     refine brI H ?_ ?_ <;> clear H <;> intro _ H
     ·replace H := oC H
      obtain ⟨_, C1, H⟩ := H
      refine leE ?_
      refine aA ?_
      refine exW48 ?_
      refine Exists.intro _ (And.intro (impl_moved.pr C1) ?_)
      refine aA ?_
      refine seW ?_
      refine L11 (fun b1 b902000 b902001 b902002 b902003 bw6 b7 b43 b44 bw8 b51 => ⟨asl [(1, .int IntKind.i64 b1), (2, .ptr 0 0), (4, .ptr 1 0), (6, .ptr 2 0), (7, R 3 b7.length), (8, .ptr 4 0), (43, .int IntKind.i64 b43), (44, .int IntKind.i64 b44), (51, .int IntKind.i64 b51)], hp [.box 29 [.int IntKind.i64 b902000, .int IntKind.i64 b902001, .lit b902002.length (iis b902002), .lit b902003.length (bb b902003)], .box 29 [.int IntKind.i64 0, .int IntKind.i64 0, R 5 0, R 6 0], .box 68 (arr bw6), .row 3 0 false (ii b7), .box 68 (arr bw8), .row 23 0 false [], .row 4 0 false []]⟩) impl_ExistsTrack.l1 H (cI [.old 0, .old 1, .old 2, .old 3, .old 228] [.old 0, .old 1, .old 2, .old 3, .old 228, .old 4, .old 5] [.old 0, .old 1, .old 2, .old 3, .old 228, .old 4, .old 5]) ?_
      clear H
      intro k b1 b902000 b902001 b902002 b902003 bw6 b7 b43 b44 bw8 b51 L1 hk H hL1
      rw [impl_ExistsTrack.l1] at H
      refine brI H ?_ ?_ <;> clear H <;> intro _ H
      ·replace H := oA H
       obtain ⟨_, H⟩ := H
       refine aA ?_
       refine exAr ?_
       refine brI H ?_ ?_ <;> clear H <;> intro _ H
       ·refine brT ?_
        refine brT ?_
        refine brT ?_
        refine aA ?_
        refine aA ?_
        refine seA ?_
        exact hL1 _ _ _ _ _ _ _ _ _ _ _ _ _ H (by omega) (cI [.old 0, .old 1, .old 2, .old 3, .old 4] [.old 0, .old 1, .old 2, .old 3, .old 4, .old 5, .old 6] [.old 0, .old 1, .old 2, .old 3, .old 4, .old 5, .old 6])
       ·refine brF ?_
        refine aA ?_
        refine brF ?_
        refine exAr ?_
        refine brF ?_
        refine aA ?_
        refine aA ?_
        refine seA ?_
        exact hL1 _ _ _ _ _ _ _ _ _ _ _ _ _ H (by omega) (cI [.old 0, .old 1, .old 2, .old 3, .old 4] [.old 0, .old 1, .old 2, .old 3, .old 4, .old 5, .old 6] [.old 0, .old 1, .old 2, .old 3, .old 4, .old 5, .old 6])
      ·exact hL0 _ _ _ _ _ _ _ _ _ _ _ H (by omega) (cI [.old 0, .old 1, .old 2, .old 3] [.old 0, .old 1, .old 2, .old 3, .old 5, .old 6] [.old 0, .old 1, .old 2, .old 3, .old 5, .old 6])
     ·refine exV ?_
      refine exV ?_
      refine aA ?_
      refine leE ?_
      refine exW48 ?_
      refine exW48 ?_
      refine And.intro (And.intro (keyA rfl rfl) rfl) ?_
      refine exFe ?_
      refine upEA ?_
      refine L11 (fun b1 b902000 b902001 b902002 b902003 b910000 b910001 b910002 b910003 b11 b13 => ⟨asl [(1, .int IntKind.i64 b1), (2, .ptr 0 0), (4, .ptr 1 0), (10, .ptr 2 0), (11, R 3 b11.length), (12, .map 4), (13, .int IntKind.i64 b13)], hp [.box 29 [.int IntKind.i64 b902000, .int IntKind.i64 b902001, .lit b902002.length (iis b902002), .lit b902003.length (bb b902003)], .box 29 [.int IntKind.i64 0, .int IntKind.i64 0, R 5 0, R 6 0], .box 29 [.int IntKind.i64 b910000, .int IntKind.i64 b910001, R 7 b910002.length, R 8 b910003.length], .row 68 0 false (bbs b11), .mp 71 (mpA b11), .row 23 0 false [], .row 4 0 false [], .row 23 0 false (ois 3 b910002), .row 4 0 false (bb b910003)]⟩) impl_ExistsTrack.l2 H (cI [.old 0, .old 1, .old 260, .old 1268, .old 1284] [.old 0, .old 1, .old 260, .old 1268, .old 1284, .old 4, .old 5, .nilB 260 2, .nilB 260 3] [.old 0, .old 1, .old 260, .old 1268, .old 1284, .old 4, .old 5, .nilB 260 2, .nilB 260 3]) ?_
      clear H
      intro k b1 b902000 b902001 b902002 b902003 b910000 b910001 b910002 b910003 b11 b13 L1 hk H hL1
      rw [impl_ExistsTrack.l2] at H
      refine brI H ?_ ?_ <;> clear H <;> intro _ H
      ·replace H := oC H
       obtain ⟨_, C1, H⟩ := H
       refine exV ?_
       refine exV ?_
       refine Exists.intro _ (And.intro (impl_power.pr C1) ?_)
       refine L14 (fun c1 c902000 c902001 c902002 c902003 c910000 c910001 c910002 c910003 c11 c13 c14 c89 c90 => ⟨asl [(1, .int IntKind.i64 c1), (2, .ptr 0 0), (4, .ptr 1 0), (10, .ptr 2 0), (11, R 3 c11.length), (12, .map 4), (13, .int IntKind.i64 c13), (14, R 5 c14.length), (89, .int IntKind.i64 c89), (90, .int IntKind.i64 c90)], hp [.box 29 [.int IntKind.i64 c902000, .int IntKind.i64 c902001, .lit c902002.length (iis c902002), .lit c902003.length (bb c902003)], .box 29 [.int IntKind.i64 0, .int IntKind.i64 0, R 6 0, R 7 0], .box 29 [.int IntKind.i64 c910000, .int IntKind.i64 c910001, R 8 c910002.length, R 9 c910003.length], .row 68 0 false (bbs c11), .mp 71 (mpA c11), .row 3 0 false (ii c14), .row 23 0 false [], .row 4 0 false [], .row 23 0 false (ois 3 c910002), .row 4 0 false (bb c910003)]⟩) impl_ExistsTrack.l3 H (cI [.old 0, .old 1, .old 2, .old 3, .old 4, .old 1428] [.old 0, .old 1, .old 2, .old 3, .old 4, .old 1428, .old 5, .old 6, .old 7, .old 8] [.old 0, .old 1, .old 2, .old 3, .old 4, .old 1428, .old 5, .old 6, .old 7, .old 8]) ?_
       clear H
       intro k c1 c902000 c902001 c902002 c902003 c910000 c910001 c910002 c910003 c11 c13 c14 c89 c90 L2 hk H hL2
       rw [impl_ExistsTrack.l3] at H
       refine brI H ?_ ?_ <;> clear H <;> intro _ H
       ·replace H := oA H
        obtain ⟨_, H⟩ := H
        replace H := oA H
        obtain ⟨_, H⟩ := H
        replace H := oC H
        obtain ⟨_, C2, H⟩ := H
        replace H := oC H
        obtain ⟨_, C3, H⟩ := H
        replace H := oA H
        obtain ⟨_, H⟩ := H
        refine leE ?_
        refine aA ?_
        refine aA ?_
        refine exAs ?_
        refine exV ?_
        refine exV ?_
        refine Exists.intro _ (And.intro (impl_tracksOf.pr C2) ?_)
        refine Exists.intro _ (And.intro (impl_moved.pr C3) ?_)
        refine aA ?_
        refine seW ?_
        refine exW48 ?_
        refine And.intro (keyA rfl rfl) ?_
        refine exFA H ?_ ?_ <;> clear H <;> intro _ H
        ·refine exV ?_
         refine exV ?_
         refine brF ?_
         refine exW48 ?_
         refine And.intro (keyA rfl rfl) ?_
         refine exF1A (by assumption) ?_
         refine aA ?_
         refine aA ?_
         refine apI ?_
         exact hL2 _ _ _ _ _ _ _ _ _ _ _ _ _ _ _ _ H (by omega) (cI [.old 0, .old 1, .old 2, .old 3, .old 4, .old 5] [.old 0, .old 1, .old 2, .old 3, .old 4, .old 5, .old 6, .old 7, .old 8, .old 9] [.old 0, .old 1, .old 2, .old 3, .old 4, .old 5, .old 6, .old 7, .old 8, .old 9])
        ·replace H := oA H
         obtain ⟨_, H⟩ := H
         refine exV ?_
         refine exV ?_
         refine brT ?_
         refine exW48 ?_
         refine And.intro (And.intro (keyA rfl rfl) rfl) ?_
         refine exF0A (by assumption) ?_
         refine upNA ?_
         refine exW48 ?_
         refine aA ?_
         refine apA ?_
         refine exW48 ?_
         refine And.intro (keyA rfl rfl) ?_
         refine exFnA (by assumption) ?_
         refine aA ?_
         refine aA ?_
         refine apI ?_
         exact hL2 _ _ _ _ _ _ _ _ _ _ _ _ _ _ _ _ H (by omega) (cI [.old 0, .old 1, .old 2, .old 3, .old 4, .old 5] [.old 0, .old 1, .old 2, .old 3, .old 4, .old 5, .old 6, .old 7, .old 8, .old 9] [.old 0, .old 1, .old 2, .old 3, .old 4, .old 5, .old 6, .old 7, .old 8, .old 9])
       ·refine brI H ?_ ?_ <;> clear H <;> intro _ H
        ·refine aA ?_
         refine leE ?_
         refine leE ?_
         refine aA ?_
         exact E H
        ·refine exV ?_
         refine L16 (fun d1 d902000 d902001 d902002 d902003 d910000 d910001 d910002 d910003 d11 d13 d14 d19 d135 d136 d137 => ⟨asl [(1, .int IntKind.i64 d1), (2, .ptr 0 0), (4, .ptr 1 0), (10, .ptr 2 0), (11, R 3 d11.length), (12, .map 4), (13, .int IntKind.i64 d13), (14, R 5 d14.length), (19, .bool d19), (135, .lit d135.length (bb d135)), (136, .int IntKind.i64 d136), (137, .int IntKind.i64 d137)], hp [.box 29 [.int IntKind.i64 d902000, .int IntKind.i64 d902001, .lit d902002.length (iis d902002), .lit d902003.length (bb d902003)], .box 29 [.int IntKind.i64 0, .int IntKind.i64 0, R 6 0, R 7 0], .box 29 [.int IntKind.i64 d910000, .int IntKind.i64 d910001, R 8 d910002.length, R 9 d910003.length], .row 68 0 false (bbs d11), .mp 71 (mpA d11), .row 3 0 false (ii d14), .row 23 0 false [], .row 4 0 false [], .row 23 0 false (ois 3 d910002), .row 4 0 false (bb d910003)]⟩) impl_ExistsTrack.l4 H (cI [.old 0, .old 1, .old 2, .old 3, .old 4, .old 5] [.old 0, .old 1, .old 2, .old 3, .old 4, .old 5, .old 6, .old 7, .old 8, .old 9] [.old 0, .old 1, .old 2, .old 3, .old 4, .old 5, .old 6, .old 7, .old 8, .old 9]) ?_
         clear H
         intro k d1 d902000 d902001 d902002 d902003 d910000 d910001 d910002 d910003 d11 d13 d14 d19 d135 d136 d137 L3 hk H hL3
         rw [impl_ExistsTrack.l4] at H
         refine brI H ?_ ?_ <;> clear H <;> intro _ H
         ·replace H := oA H
          obtain ⟨_, H⟩ := H
          replace H := oA H
          obtain ⟨_, H⟩ := H
          refine aA ?_
          refine exB ?_
          refine brI H ?_ ?_ <;> clear H <;> intro _ H
          ·refine brT ?_
           refine brT ?_
           refine brT ?_
           exact hL3 _ _ _ _ _ _ _ _ _ _ _ _ _ _ _ _ _ _ H (by omega) (cI [.old 0, .old 1, .old 2, .old 3, .old 4, .old 5] [.old 0, .old 1, .old 2, .old 3, .old 4, .old 5, .old 6, .old 7, .old 8, .old 9] [.old 0, .old 1, .old 2, .old 3, .old 4, .old 5, .old 6, .old 7, .old 8, .old 9])
          ·refine brF ?_
           refine brI H ?_ ?_ <;> clear H <;> intro _ H
           ·replace H := oA H
            obtain ⟨_, H⟩ := H
            replace H := oA H
            obtain ⟨_, H⟩ := H
            replace H := oA H
            obtain ⟨_, H⟩ := H
            refine brT ?_
            refine brT ?_
            refine brT ?_
            refine aA ?_
            refine brT ?_
            refine aA ?_
            refine brT ?_
            refine exBs ?_
            refine brF ?_
            refine brT ?_
            refine brF ?_
            exact hL3 _ _ _ _ _ _ _ _ _ _ _ _ _ _ _ _ _ _ H (by omega) (cI [.old 0, .old 1, .old 2, .old 3, .old 4, .old 5] [.old 0, .old 1, .old 2, .old 3, .old 4, .old 5, .old 6, .old 7, .old 8, .old 9] [.old 0, .old 1, .old 2, .old 3, .old 4, .old 5, .old 6, .old 7, .old 8, .old 9])
           ·refine brF ?_
            refine brF ?_
            refine brF ?_
            refine brF ?_
            refine brF ?_
            refine brF ?_
            refine brF ?_
            refine brF ?_
            exact hL3 _ _ _ _ _ _ _ _ _ _ _ _ _ _ _ _ _ _ H (by omega) (cI [.old 0, .old 1, .old 2, .old 3, .old 4, .old 5] [.old 0, .old 1, .old 2, .old 3, .old 4, .old 5, .old 6, .old 7, .old 8, .old 9] [.old 0, .old 1, .old 2, .old 3, .old 4, .old 5, .old 6, .old 7, .old 8, .old 9])
         ·replace H := oA H
          obtain ⟨_, H⟩ := H
          replace H := oA H
          obtain ⟨_, H⟩ := H
          refine exV ?_
          refine aA ?_
          refine apO ?_
          refine aA ?_
          refine leE ?_
          refine exV ?_
          refine aA ?_
          refine aA ?_
          refine apB ?_
          refine aA ?_
          refine leE ?_
          exact hL1 _ _ _ _ _ _ _ _ _ _ _ _ _ H (by omega) (cI [.old 0, .old 1, .old 2, .old 3, .old 4] [.old 0, .old 1, .old 2, .old 3, .old 4, .old 6, .old 7, .old 8, .old 9] [.old 0, .old 1, .old 2, .old 3, .old 4, .old 6, .old 7, .old 8, .old 9])
      ·replace H := oC H
       obtain ⟨_, C1, H⟩ := H
       refine leE ?_
       refine aA ?_
       refine Exists.intro _ (And.intro (impl_Relation_limited.pr C1) ?_)
       refine exV ?_
       refine exV ?_
       refine aA ?_
       refine leE ?_
       refine leE ?_
       refine aA ?_
       exact E H
/-! impl_NotRelation -/
noncomputable def lv64 : Nat → List Nat := atL [(0, [2, 4, 19, 20, 21])]
noncomputable def dr64 : Nat → Dr := atD []
theorem ok64 : bodyOk dr64 Try.f64 = true := by kernel_rfl
set_option maxHeartbeats 8000000 in
theorem impl_NotRelation.pr {k : Nat} {a0_0 : Int} {a0_1 : Int} {l0_2 : List (List Int)} {l0_3 : List Bool} {r : (Int × Int × (List (List Int)) × List Bool × Bool)} {n0 : Nat} {c0 : List AV} {n1 : Nat} (H : impl_NotRelation.f k a0_0 a0_1 l0_2 l0_3 = some r) (hn0 : n0 = l0_2.length := by exact ln) (hc0 : mapR view c0 = iis l0_2 := by exact vw) (hn1 : n1 = l0_3.length := by exact ln) : Promise Try.prog tb 64 [.agg [.int .i64 a0_0, .int .i64 a0_1, .lit n0 c0, .lit n1 (bb l0_3)]] (.tup [.agg [.int .i64 r.1, .int .i64 r.2.1, .own 23 r.2.2.1.length (ois 3 r.2.2.1), .own 4 r.2.2.2.1.length (bb r.2.2.2.1)], .bool r.2.2.2.2]) := by
  subst hn0
  subst hn1
  refine Promise.weak (.cons (weak_agg (.cons (Weak.refl _) <| .cons (Weak.refl _) <| .cons (weak_lit hc0) <| .cons (Weak.refl _) <| .nil)) <| .nil) ?_
  have E := @reF _ (fun r : (Int × Int × (List (List Int)) × List Bool × Bool) => .tup [.agg [.int .i64 r.1, .int .i64 r.2.1, .own 23 r.2.2.1.length (ois 3 r.2.2.1), .own 4 r.2.2.2.1.length (bb r.2.2.2.1)], .bool r.2.2.2.2]) r
  refine promise_body tb_ok rfl lv64 dr64 Try.func64 ok64 rfl ?_
  unfold impl_NotRelation.f at H
  replace H := oC H
  obtain ⟨_, C0, H⟩ := H
  refine aA ?_
  refine leE ?_
  refine aA ?_
  refine Exists.intro _ (And.intro (impl_IsRelation.pr C0) ?_)
  refine brN H ?_ ?_ <;> clear H <;> intro _ H
  ·refine aA ?_
   refine leE ?_
   refine leE ?_
   refine aA ?_
   exact E H
  ·refine exV ?_
   refine exV ?_
   refine exV ?_
   refine aA ?_
   refine leE ?_
   refine exV ?_
   refine L7 (fun a19 a20 a21 a921000 a921001 a921002 a921003 => ⟨asl [(2, .ptr 0 0), (4, .ptr 1 0), (19, .lit a19.length (bb a19)), (20, .int IntKind.i64 a20), (21, .int IntKind.i64 a21)], hp [.box 29 [.int IntKind.i64 0, .int IntKind.i64 0, R 2 0, R 3 0], .box 29 [.int IntKind.i64 a921000, .int IntKind.i64 a921001, .lit a921002.length (iis a921002), R 4 a921003.length], .row 23 0 false [], .row 4 0 false [], .row 4 0 false (bb a921003)]⟩) impl_NotRelation.l0 H (cI [.old 132, .old 164] [.old 132, .old 164, .nilB 132 2, .nilB 132 3, .nilB 164 3] [.old 132, .old 164, .nilB 132 2, .nilB 132 3, .nilB 164 3]) ?_
   clear H
   intro k a19 a20 a21 a921000 a921001 a921002 a921003 L0 hk H hL0
   rw [impl_NotRelation.l0] at H
   refine brI H ?_ ?_ <;> clear H <;> intro _ H
   ·replace H := oA H
    obtain ⟨_, H⟩ := H
    replace H := oA H
    obtain ⟨_, H⟩ := H
    replace H := oA H
    obtain ⟨_, H⟩ := H
    refine aA ?_
    refine exB ?_
    refine exV ?_
    refine aA ?_
    refine aA ?_
    refine apB ?_
    refine aA ?_
    refine leE ?_
    exact hL0 _ _ _ _ _ _ _ _ _ H (by omega) (cI [.old 0, .old 1] [.old 0, .old 1, .old 2, .old 3, .old 4] [.old 0, .old 1, .old 2, .old 3, .old 4])
   ·replace H := oC H
    obtain ⟨_, C1, H⟩ := H
    refine leE ?_
    refine aA ?_
    refine Exists.intro _ (And.intro (impl_Relation_reduced.pr C1) ?_)
    refine aA ?_
    refine leE ?_
    refine leE ?_
    refine aA ?_
    exact E H
/-! impl_AllTrack -/
noncomputable def lv27 : Nat → List Nat := atL []
noncomputable def dr27 : Nat → Dr := atD []
theorem ok27 : bodyOk dr27 Try.f27 = true := by kernel_rfl
set_option maxHeartbeats 8000000 in
theorem impl_AllTrack.pr {k : Nat} {a0_0 : Int} {a0_1 : Int} {l0_2 : List (List Int)} {l0_3 : List Bool} {a1 : Int} {r : (Int × Int × List (List Int) × List Bool × Bool)} {n0 : Nat} {c0 : List AV} {n1 : Nat} (H : impl_AllTrack.f k a0_0 a0_1 l0_2 l0_3 a1 = some r) (hn0 : n0 = l0_2.length := by exact ln) (hc0 : mapR view c0 = iis l0_2 := by exact vw) (hn1 : n1 = l0_3.length := by exact ln) : Promise Try.prog tb 27 [.agg [.int .i64 a0_0, .int .i64 a0_1, .lit n0 c0, .lit n1 (bb l0_3)], .int .i64 a1] (.tup [.agg [.int .i64 r.1, .int .i64 r.2.1, .own 23 r.2.2.1.length (ois 3 r.2.2.1), .own 4 r.2.2.2.1.length (bb r.2.2.2.1)], .bool r.2.2.2.2]) := by
  subst hn0
  subst hn1
  refine Promise.weak (.cons (weak_agg (.cons (Weak.refl _) <| .cons (Weak.refl _) <| .cons (weak_lit hc0) <| .cons (Weak.refl _) <| .nil)) <| .cons (Weak.refl _) <| .nil) ?_
  have E := @reF _ (fun r : (Int × Int × List (List Int) × List Bool × Bool) => .tup [.agg [.int .i64 r.1, .int .i64 r.2.1, .own 23 r.2.2.1.length (ois 3 r.2.2.1), .own 4 r.2.2.2.1.length (bb r.2.2.2.1)], .bool r.2.2.2.2]) r
  refine promise_body tb_ok rfl lv27 dr27 Try.func27 ok27 rfl ?_
  unfold impl_AllTrack.f at H
  replace H := oC H
  obtain ⟨_, C0, H⟩ := H
  refine aA ?_
  refine leE ?_
  refine aA ?_
  refine Exists.intro _ (And.intro (impl_NotRelation.pr C0) ?_)
  refine exV ?_
  refine exV ?_
  refine aA ?_
  refine leE ?_
  refine brN H ?_ ?_ <;> clear H <;> intro _ H
  ·refine aA ?_
   refine leE ?_
   refine leE ?_
   refine aA ?_
   exact E H
  ·replace H := oC H
   obtain ⟨_, C1, H⟩ := H
   refine leE ?_
   refine aA ?_
   refine Exists.intro _ (And.intro (impl_ExistsTrack.pr C1) ?_)
   refine exV ?_
   refine exV ?_
   refine aA ?_
   refine leE ?_
   refine brN H ?_ ?_ <;> clear H <;> intro _ H
   ·refine aA ?_
    refine leE ?_
    refine leE ?_
    refine aA ?_
    exact E H
   ·replace H := oC H
    obtain ⟨_, C2, H⟩ := H
    refine leE ?_
    refine aA ?_
    refine Exists.intro _ (And.intro (impl_NotRelation.pr C2) ?_)
    refine exV ?_
    refine exV ?_
    refine aA ?_
    refine leE ?_
    refine leE ?_
    refine aA ?_
    exact E H
/-! laws_FnExactAllTrack -/
noncomputable def lv7 : Nat → List Nat := atL []
noncomputable def dr7 : Nat → Dr := atD [(10, ⟨[], line [0, 1, 2, 3, 4]⟩)]
theorem ok7 : bodyOk dr7 Try.f7 = true := by kernel_rfl
set_option maxHeartbeats 8000000 in
theorem laws_FnExactAllTrack.pr {k : Nat} {a0_0 : Int} {a0_1 : Int} {l0_2 : List (List Int)} {l0_3 : List Bool} {a1 : Int} {r : Bool} (H : laws_FnExactAllTrack.f k a0_0 a0_1 l0_2 l0_3 a1 = some r) : Contract Try.prog tb 7 [.agg [.int .i64 a0_0, .int .i64 a0_1, .lit l0_2.length (iis l0_2), .lit l0_3.length (bb l0_3)], .int .i64 a1] (.bool r) := by
  have E := @reF _ (fun r : Bool => .bool r) r
  refine law_body tb_ok rfl lv7 dr7 Try.func7 ok7 (xs := [.agg [.int .i64 a0_0, .int .i64 a0_1, .xr 16, .xr 17], .int .i64 a1]) (ex := [(l0_2.length, (iis l0_2)), (l0_3.length, (bb l0_3))]) rfl ?_
  unfold laws_FnExactAllTrack.f at H
  replace H := oC H
  obtain ⟨_, C0, H⟩ := H
  refine aA ?_
  refine leE ?_
  refine aA ?_
  refine Exists.intro _ (And.intro (laws_szRelation.pr C0) ?_)
  refine brI H ?_ ?_ <;> clear H <;> intro _ H
  ·exact E H
  ·replace H := oC H
   obtain ⟨_, C1, H⟩ := H
   replace H := oC H
   obtain ⟨_, C2, H⟩ := H
   replace H := oC H
   obtain ⟨_, C3, H⟩ := H
   replace H := oC H
   obtain ⟨_, C4, H⟩ := H
   replace H := oA H
   obtain ⟨_, H⟩ := H
   replace H := oA H
   obtain ⟨_, H⟩ := H
   replace H := oC H
   obtain ⟨_, C5, H⟩ := H
   replace H := oA H
   obtain ⟨_, H⟩ := H
   replace H := oC H
   obtain ⟨_, C6, H⟩ := H
   replace H := oA H
   obtain ⟨_, H⟩ := H
   replace H := oA H
   obtain ⟨_, H⟩ := H
   replace H := oA H
   obtain ⟨_, H⟩ := H
   replace H := oC H
   obtain ⟨_, C7, H⟩ := H
   replace H := oC H
   obtain ⟨_, C8, H⟩ := H
   replace H := oA H
   obtain ⟨_, H⟩ := H
   replace H := oA H
   obtain ⟨_, H⟩ := H
   replace H := oA H
   obtain ⟨_, H⟩ := H
   replace H := oA H
   obtain ⟨_, H⟩ := H
   replace H := oA H
   obtain ⟨_, H⟩ := H
   replace H := oA H
   obtain ⟨_, H⟩ := H
   refine leE ?_
   refine aA ?_
   refine Exists.intro _ (And.intro (laws_toRelation.pr C1) ?_)
   refine Exists.intro _ (And.intro (spec_AllTrack.pr C2) ?_)
   refine exV ?_
   refine exV ?_
   refine aA ?_
   refine leE ?_
   refine leE ?_
   refine aA ?_
   refine Exists.intro _ (And.intro (laws_toRelation.pr C1) ?_)
   refine aA ?_
   refine leE ?_
   refine leE ?_
   refine aA ?_
   refine Exists.intro _ (And.intro (impl_AllTrack.pr C3) ?_)
   refine exV ?_
   refine exV ?_
   refine aA ?_
   refine leE ?_
   refine leE ?_
   refine aA ?_
   refine leE ?_
   refine aA ?_
   refine Exists.intro _ (And.intro (laws_eqRelation.pr C4) ?_)
   refine brF ?_
   refine brF ?_
   refine brF ?_
   refine brF ?_
   refine brF ?_
   refine leE ?_
   refine aA ?_
   refine leE ?_
   refine aA ?_
   refine Exists.intro _ (And.intro (laws_toRelation.pr C1) ?_)
   refine Exists.intro _ (And.intro (laws_eqRelation.pr C5) ?_)
   refine brF ?_
   refine leE ?_
   refine aA ?_
   have LC6 := laws_markRelation.len C6
   refine exW (laws_markRelation.pr C6) ?_
   refine brF ?_
   refine leE ?_
   refine aA ?_
   refine brF ?_
   refine leE ?_
   refine aA ?_
   refine brF ?_
   refine Exists.intro _ (And.intro (laws_eqRelation.pr C4) ?_)
   refine brF ?_
   refine brF ?_
   refine brF ?_
   refine brF ?_
   refine brF ?_
   refine brF ?_
   refine brF ?_
   refine leE ?_
   refine aA ?_
   have LC7 := laws_markRelation.len C7
   refine exW (laws_markRelation.pr C7) ?_
   refine leE ?_
   refine aA ?_
   refine Exists.intro _ (And.intro (laws_heldRelation.pr C8) ?_)
   refine brF ?_
   refine brF ?_
   refine leE ?_
   refine aA ?_
   refine Exists.intro _ (And.intro (laws_toRelation.pr C1) ?_)
   refine Exists.intro _ (And.intro (impl_AllTrack.pr C3) ?_)
   refine exV ?_
   refine exV ?_
   refine aA ?_
   refine leE ?_
   refine leE ?_
   refine aA ?_
   refine leE ?_
   refine aA ?_
   refine Exists.intro _ (And.intro (laws_eqRelation.pr C4) ?_)
   refine brF ?_
   refine brF ?_
   refine brF ?_
   refine brF ?_
   refine brF ?_
   refine leE ?_
   refine aA ?_
   refine Exists.intro _ (And.intro (laws_heldRelation.pr C8) ?_)
   refine brF ?_
   refine brF ?_
   exact E H
end Go.Ev
