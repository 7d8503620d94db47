-- written by a program of this session (a turned copy of the kit's print) out of the translation
-- compact
import Derived.Test.YtgopcliohchkmaaQ0
import Derived.Test.YtgopcliohchkmaaQ211
import Derived.Test.YtgopcliohchkmaaQ41
import Derived.Test.YtgopcliohchkmaaQ80
namespace Go.Proofs.Ytgopcliohchkmaa.Q
open Go.RowKit Go.Proofs.YtgopcliohchkmaaW.PrintWords Go.Proofs.YtgopcliohchkmaaW.PrintLast Go.Proofs.YtgopcliohchkmaaW.PrintMore
attribute [local go_sem] max2_int min2_int max_two min_two max_three min_three max_four min_four   -- for this text's walks alone
set_option linter.unusedVariables false
set_option linter.unusedSimpArgs false

/-! ### impl_AreSameSets: function 44 -/
def impl_AreSameSets.f (k : Nat) (a0_0 : Int) (a0_1 : Int) (l0_2 : List (List Int)) (l0_3 : List Bool) (a1_0 : Int) (a1_1 : Int) (l1_2 : List (List Int)) (l1_3 : List Bool) : Option (Bool) := (impl_IsRelation.f k a0_0 a0_1 l0_2 l0_3).bind fun t377 => (if t377 = true then ((impl_IsRelation.f k a1_0 a1_1 l1_2 l1_3).bind fun t378 => (if t378 = true then ((impl_Relation_reduced.f k a0_0 a0_1 l0_2 l0_3).bind fun bt379 => ((impl_Relation_reduced.f k a1_0 a1_1 l1_2 l1_3).bind fun bt387 => ((impl_SameRelation.f k bt379.1 bt379.2.1 bt379.2.2.1 bt379.2.2.2 bt387.1 bt387.2.1 bt387.2.2.1 bt387.2.2.2).bind fun t395 => (some t395)))) else (some false))) else (some false))
theorem impl_AreSameSets.mono : ∀ a0 a1 a2 a3 a4 a5 a6 a7 k, LeO (impl_AreSameSets.f k a0 a1 a2 a3 a4 a5 a6 a7) (impl_AreSameSets.f (k + 1) a0 a1 a2 a3 a4 a5 a6 a7) := by
 intro a0 a1 a2 a3 a4 a5 a6 a7 k
 unfold impl_AreSameSets.f
 repeat' first
   | (with_reducible exact impl_IsRelation.mono _ _ _ _ _)
   | (with_reducible exact impl_Relation_reduced.mono _ _ _ _ _)
   | (with_reducible exact impl_SameRelation.mono _ _ _ _ _ _ _ _ _)
   | (with_reducible exact LeO.refl _)
   | (with_reducible exact LeO.none _)
   | (with_reducible refine LeO.ite ?_ ?_)
   | (with_reducible refine LeO.bind ?_ (fun _ => ?_))
   | exact impl_IsRelation.mono _ _ _ _ _
   | exact impl_Relation_reduced.mono _ _ _ _ _
   | exact impl_SameRelation.mono _ _ _ _ _ _ _ _ _
   | exact LeO.none _
   | refine LeO.ite ?_ ?_
   | refine LeO.bind ?_ (fun _ => ?_)
def impl_AreSameSets.T1 : Bool × List (List Nat × List Nat) := (true, [([], []), ([0], [0]), ([1, 1], [1]), ([2], [2]), ([3, 2, 2], [2, 3]), ([2, 4], [2, 4]), ([5, 4], [5]), ([6], [6]), ([7, 6, 6], [6, 7]), ([6], [6]), ([9, 8, 6], [6, 9]), ([8, 10, 10, 6], [6, 8, 10]), ([6, 11], [6, 11]), ([12, 11, 0, 1, 2, 3, 4, 5, 6, 7, 8, 9, 10, 11, 12], [12])])
def impl_AreSameSets.B1 : List Nat := [0, 1, 3, 7, 15, 31, 63, 127, 255, 127, 1023, 2047, 4095, 8191]
theorem impl_AreSameSets.tab1 : rtab .any (opsOf Try.f44 1) = impl_AreSameSets.T1 := by kernel_rfl
theorem impl_AreSameSets.bits1 : waitsOk impl_AreSameSets.T1.2 impl_AreSameSets.B1 = true := by kernel_rfl
set_option maxHeartbeats 8000000 in
set_option maxRecDepth 100000 in
theorem impl_AreSameSets.calls (k : Nat) (a0_0 : Int) (a0_1 : Int) (A0_2 : Option Addr) (c0_2 : Nat) (l0_2 : List (List Int)) (A0_3 : Option Addr) (c0_3 : Nat) (l0_3 : List Bool) (a1_0 : Int) (a1_1 : Int) (A1_2 : Option Addr) (c1_2 : Nat) (l1_2 : List (List Int)) (A1_3 : Option Addr) (c1_3 : Nat) (l1_3 : List Bool) (r : Bool) (w : World) (hr0_2 : Kd.C (Kd.slice 3 (Kd.int .i64)) w A0_2 l0_2.length l0_2) (hc0_2 : l0_2.length ≤ c0_2) (hr0_3 : Kd.C Kd.bool w A0_3 l0_3.length l0_3) (hc0_3 : l0_3.length ≤ c0_3) (hr1_2 : Kd.C (Kd.slice 3 (Kd.int .i64)) w A1_2 l1_2.length l1_2) (hc1_2 : l1_2.length ≤ c1_2) (hr1_3 : Kd.C Kd.bool w A1_3 l1_3.length l1_3) (hc1_3 : l1_3.length ≤ c1_3) (h : impl_AreSameSets.f k a0_0 a0_1 l0_2 l0_3 a1_0 a1_1 l1_2 l1_3 = some r) :
  Calls Try.prog 44 #[.agg #[.int .i64 a0_0, .int .i64 a0_1, .slice A0_2 l0_2.length c0_2, .slice A0_3 l0_3.length c0_3], .agg #[.int .i64 a1_0, .int .i64 a1_1, .slice A1_2 l1_2.length c1_2, .slice A1_3 l1_3.length c1_3]] w fun e w' => e = .returned (.bool r) ∧ Below w.heap.size w w' := by
 have hu25 := Try.underlying25
 have HR0_2 := yA hr0_2
 have HC0_2 := yA hc0_2
 clear hr0_2 hc0_2
 have HR0_3 := yA hr0_3
 have HC0_3 := yA hc0_3
 clear hr0_3 hc0_3
 have HR1_2 := yA hr1_2
 have HC1_2 := yA hc1_2
 clear hr1_2 hc1_2
 have HR1_3 := yA hr1_3
 have HC1_3 := yA hc1_3
 clear hr1_3 hc1_3
 have HB := yA (zV w.heap.size w)
 have H : ((impl_IsRelation.f k a0_0 a0_1 l0_2 l0_3).bind fun t377 => (if t377 = true then ((impl_IsRelation.f k a1_0 a1_1 l1_2 l1_3).bind fun t378 => (if t378 = true then ((impl_Relation_reduced.f k a0_0 a0_1 l0_2 l0_3).bind fun bt379 => ((impl_Relation_reduced.f k a1_0 a1_1 l1_2 l1_3).bind fun bt387 => ((impl_SameRelation.f k bt379.1 bt379.2.1 bt379.2.2.1 bt379.2.2.2 bt387.1 bt387.2.1 bt387.2.2.1 bt387.2.2.2).bind fun t395 => (some t395)))) else (some false))) else (some false))) = some r := h
 clear h
 replace H := Option.bind_eq_some_iff.mp H
 obtain ⟨t377, A30, H⟩ := H
 replace H : (if t377 = true then ((impl_IsRelation.f k a1_0 a1_1 l1_2 l1_3).bind fun t378 => (if t378 = true then ((impl_Relation_reduced.f k a0_0 a0_1 l0_2 l0_3).bind fun bt379 => ((impl_Relation_reduced.f k a1_0 a1_1 l1_2 l1_3).bind fun bt387 => ((impl_SameRelation.f k bt379.1 bt379.2.1 bt379.2.2.1 bt379.2.2.2 bt387.1 bt387.2.1 bt387.2.2.1 bt387.2.2.2).bind fun t395 => (some t395)))) else (some false))) else (some false)) = some r := H
 have A3 := yA A30
 clear A30
 by_cases c4 : t377 = true
 ·subst c4
  have H1 : ((impl_IsRelation.f k a1_0 a1_1 l1_2 l1_3).bind fun t378 => (if t378 = true then ((impl_Relation_reduced.f k a0_0 a0_1 l0_2 l0_3).bind fun bt379 => ((impl_Relation_reduced.f k a1_0 a1_1 l1_2 l1_3).bind fun bt387 => ((impl_SameRelation.f k bt379.1 bt379.2.1 bt379.2.2.1 bt379.2.2.2 bt387.1 bt387.2.1 bt387.2.2.1 bt387.2.2.2).bind fun t395 => (some t395)))) else (some false))) = some r := by rw [if_pos rfl] at H; exact H
  clear H
  have H := H1
  clear H1
  replace H := Option.bind_eq_some_iff.mp H
  obtain ⟨t378, A50, H⟩ := H
  replace H : (if t378 = true then ((impl_Relation_reduced.f k a0_0 a0_1 l0_2 l0_3).bind fun bt379 => ((impl_Relation_reduced.f k a1_0 a1_1 l1_2 l1_3).bind fun bt387 => ((impl_SameRelation.f k bt379.1 bt379.2.1 bt379.2.2.1 bt379.2.2.2 bt387.1 bt387.2.1 bt387.2.2.1 bt387.2.2.2).bind fun t395 => (some t395)))) else (some false)) = some r := H
  have A5 := yA A50
  clear A50
  by_cases c6 : t378 = true
  ·subst c6
   have H1 : ((impl_Relation_reduced.f k a0_0 a0_1 l0_2 l0_3).bind fun bt379 => ((impl_Relation_reduced.f k a1_0 a1_1 l1_2 l1_3).bind fun bt387 => ((impl_SameRelation.f k bt379.1 bt379.2.1 bt379.2.2.1 bt379.2.2.2 bt387.1 bt387.2.1 bt387.2.2.1 bt387.2.2.2).bind fun t395 => (some t395)))) = some r := by rw [if_pos rfl] at H; exact H
   clear H
   have H := H1
   clear H1
   replace H := Option.bind_eq_some_iff.mp H
   obtain ⟨⟨t379, t380, t381, t384⟩, A70, H⟩ := H
   replace H : ((impl_Relation_reduced.f k a1_0 a1_1 l1_2 l1_3).bind fun bt387 => ((impl_SameRelation.f k t379 t380 t381 t384 bt387.1 bt387.2.1 bt387.2.2.1 bt387.2.2.2).bind fun t395 => (some t395))) = some r := H
   have A7 := yA A70
   clear A70
   replace H := Option.bind_eq_some_iff.mp H
   obtain ⟨⟨t387, t388, t389, t392⟩, A80, H⟩ := H
   replace H : ((impl_SameRelation.f k t379 t380 t381 t384 t387 t388 t389 t392).bind fun t395 => (some t395)) = some r := H
   have A8 := yA A80
   clear A80
   replace H := Option.bind_eq_some_iff.mp H
   obtain ⟨t395, A90, H⟩ := H
   replace H : (some t395) = some r := H
   have A9 := yA A90
   clear A90
   obtain rfl := zU H
   go_enter Try.func44, Try.ntmps44
   try go_wp2_with (first | ((with_reducible refine gate_dst (N := 2) rfl ?_); refine box_event ?hg (N := 2) ?hd (cs := #[.int .i64 a0_0, .int .i64 a0_1, .slice A0_2 l0_2.length c0_2, .slice A0_3 l0_3.length c0_3]) (t := 25) ?hr ?_; (case hd => rfl); (case hg => rfl); (case hr => first | (go_simp; done) | (go_simp; rfl)); intro gb375 hg w10 hbox hb; have n0_ := yA (zD (mB HB.out) hb); have n1_ := yA (hbox); have n2_ := yA ((by rw [hg]; exact (yX (mB HB.out)) : w.heap.size ≤ gb375)); have n3_ := yA ((by rw [hg]; exact (yX (mB HB.out)) : w.heap.size ≤ gb375)); clear HB; have HB := n0_; have BK375 := n1_; have GW375 := n2_; have GE375 := n3_; clear n0_ n1_ n2_ n3_; clear hb hbox hg) | ((with_reducible refine gate_dst (N := 3) rfl ?_); refine box_event ?hg (N := 3) ?hd (cs := #[.int .i64 a1_0, .int .i64 a1_1, .slice A1_2 l1_2.length c1_2, .slice A1_3 l1_3.length c1_3]) (t := 25) ?hr ?_; (case hd => rfl); (case hg => rfl); (case hr => first | (go_simp; done) | (go_simp; rfl)); intro gb376 hg w11 hbox hb; have n0_ := yA (yU (mK BK375.out) hb); have n1_ := yA (zD (by with_reducible repeat first | exact HB.out | apply yO | apply yN | apply yP | refine yQ ?_ GE375.out) hb); have n2_ := yA (hbox); have n3_ := yA ((by rw [hg]; exact (yX (by with_reducible repeat first | exact HB.out | apply yO | apply yN | apply yP | refine yQ ?_ GE375.out)) : w.heap.size ≤ gb376)); have n4_ := yA ((by rw [hg]; exact (yX (by with_reducible repeat first | exact HB.out | apply yO | apply yN | apply yP | refine yQ ?_ GE375.out)) : w.heap.size ≤ gb376)); have n5_ := yA ((by rw [hg]; exact Nat.ne_of_lt (zX (mK BK375.out)) : gb375 ≠ gb376)); have n6_ := yA ((by rw [hg]; exact Nat.ne_of_gt (zX (mK BK375.out)) : gb376 ≠ gb375)); clear BK375; clear HB; have BK375 := n0_; have HB := n1_; have BK376 := n2_; have GW376 := n3_; have GE376 := n4_; have NB375_376 := n5_; have NB376_375 := n6_; clear n0_ n1_ n2_ n3_ n4_ n5_ n6_; clear hb hbox hg))
   have n0_ := yA (yT BK375.out)
   have n1_ := yA (yT BK376.out)
   have n2_ := yA (yP HB.out)
   clear BK375
   clear BK376
   clear HB
   have BK375 := n0_
   have BK376 := n1_
   have HB := n2_
   clear n0_ n1_ n2_
   refine start_ (n := 14) (S := fun w' => w'.cell? ⟨gb375, 0, none⟩ = some (.int .i64 a0_0) ∧ w'.cell? ⟨gb375, 1, none⟩ = some (.int .i64 a0_1) ∧ w'.cell? ⟨gb375, 2, none⟩ = some (.slice A0_2 l0_2.length c0_2) ∧ w'.cell? ⟨gb375, 3, none⟩ = some (.slice A0_3 l0_3.length c0_3) ∧ w'.cell? ⟨gb376, 0, none⟩ = some (.int .i64 a1_0) ∧ w'.cell? ⟨gb376, 1, none⟩ = some (.int .i64 a1_1) ∧ w'.cell? ⟨gb376, 2, none⟩ = some (.slice A1_2 l1_2.length c1_2) ∧ w'.cell? ⟨gb376, 3, none⟩ = some (.slice A1_3 l1_3.length c1_3)) (ds := []) #[false, false, false, false, false, false, false, false, false, false, false, false, false, false] (by kernel_rfl) rfl rfl ⟨(yV BK375.out 0).trans rfl, (yV BK375.out 1).trans rfl, (yV BK375.out 2).trans rfl, (yV BK375.out 3).trans rfl, (yV BK376.out 0).trans rfl, (yV BK376.out 1).trans rfl, (yV BK376.out 2).trans rfl, (yV BK376.out 3).trans rfl⟩ (fun hHeld => ?_); refine with_tabW impl_AreSameSets.tab1 impl_AreSameSets.bits1 (fun HT_ HW_ => ?_)
   generalize w11.drew = w12 at BK375 BK376 HB hHeld ⊢
   refine take_ (i := 0) (N := some 5) (v := ?_) (a' := ?_) #[true, false, false, false, false, false, false, false, false, false, false, false, false, false] rfl rfl (take_ofW HT_.out HW_.out (by kernel_rfl)) (fun _ _ _ h => h) (Or.inl ⟨by rfl, ?_⟩) hHeld ?_ ?_
   rotate_left
   ·rintro w' ⟨s0, s1, s2, s3, s4, s5, s6, s7⟩
    go_simp
    with_reducible rfl
   rotate_left
   ·simp only [Act.put, zA, zB, zC, i64_w, i32_w]
    rfl
   refine one_ (i := 1) (N := some 6) #[true, true, false, false, false, false, false, false, false, false, false, false, false, false] rfl rfl (one_of HT_.out (by kernel_rfl)) (by decide) (fun K hK => ?_)
   refine goes_ Try.func65 (by kernel_rfl) rfl #[.agg #[.int .i64 a0_0, .int .i64 a0_1, .slice A0_2 l0_2.length c0_2, .slice A0_3 l0_3.length c0_3]] (by rfl) rfl rfl (by (try simp only [zI, zJ, zK]); first | done | rfl | (simp only [zL, zM]; rfl)) ?_
   with_reducible refine (impl_IsRelation.calls k a0_0 a0_1 _ _ l0_2 _ _ l0_3 true _ ?side1 ?side2 ?side3 ?side4 A3.out).mono ?_
   (case side1 => exact mC (yM HR0_2.out HB.out))
   (case side2 => exact HC0_2.out)
   (case side3 => exact mC (yM HR0_3.out HB.out))
   (case side4 => exact HC0_3.out)
   rintro e w13 ⟨rfl, hb⟩
   refine ⟨_, rfl, ?_⟩
   have n0_ := yA (yU (mK BK375.out) hb)
   have n1_ := yA (yU (mK BK376.out) hb)
   have n2_ := yA (zD (by with_reducible repeat first | exact HB.out | apply yO | apply yN | apply yP | refine yQ ?_ GE375.out | refine yQ ?_ GE376.out) hb)
   clear BK375
   clear BK376
   clear HB
   have BK375 := n0_
   have BK376 := n1_
   have HB := n2_
   clear n0_ n1_ n2_
   (try clear hb)
   (try clear hb2)
   (try clear hk)
   (try clear hi)
   refine hK.out _ _ ⟨(yV BK375.out 0).trans rfl, (yV BK375.out 1).trans rfl, (yV BK375.out 2).trans rfl, (yV BK375.out 3).trans rfl, (yV BK376.out 0).trans rfl, (yV BK376.out 1).trans rfl, (yV BK376.out 2).trans rfl, (yV BK376.out 3).trans rfl⟩ (fun hHeld => ?_)
   clear hK K
   refine norm_ (a' := ?_) ?_ ?_
   rotate_left
   ·show Act.put _ (some 6) _ = _
    simp only [Act.put, zA, zB, zC, i64_w, i32_w]
    rfl
   refine pure_ (i := 2) (N := some 7) (v := ?_) (a' := ?_) #[true, true, true, false, false, false, false, false, false, false, false, false, false, false] rfl rfl (any_of HT_.out (by kernel_rfl)) (fun _ _ _ h => h) (Or.inl ⟨by rfl, ?_⟩) ?_ ?_
   rotate_left
   ·intro w'
    go_simp
    with_reducible rfl
   rotate_left
   ·simp only [Act.put, zA, zB, zC, i64_w, i32_w]
    rfl
   refine take_ (i := 3) (N := some 8) (v := ?_) (a' := ?_) #[true, true, true, true, false, false, false, false, false, false, false, false, false, false] rfl rfl (take_ofW HT_.out HW_.out (by kernel_rfl)) (fun _ _ _ h => h) (Or.inl ⟨by rfl, ?_⟩) hHeld ?_ ?_
   rotate_left
   ·rintro w' ⟨s0, s1, s2, s3, s4, s5, s6, s7⟩
    go_simp
    with_reducible rfl
   rotate_left
   ·simp only [Act.put, zA, zB, zC, i64_w, i32_w]
    rfl
   refine one_ (i := 4) (N := some 9) #[true, true, true, true, true, false, false, false, false, false, false, false, false, false] rfl rfl (one_of HT_.out (by kernel_rfl)) (by decide) (fun K hK => ?_)
   refine goes_ Try.func65 (by kernel_rfl) rfl #[.agg #[.int .i64 a1_0, .int .i64 a1_1, .slice A1_2 l1_2.length c1_2, .slice A1_3 l1_3.length c1_3]] (by rfl) rfl rfl (by (try simp only [zI, zJ, zK]); first | done | rfl | (simp only [zL, zM]; rfl)) ?_
   with_reducible refine (impl_IsRelation.calls k a1_0 a1_1 _ _ l1_2 _ _ l1_3 true _ ?side1 ?side2 ?side3 ?side4 A5.out).mono ?_
   (case side1 => exact mC (yM HR1_2.out HB.out))
   (case side2 => exact HC1_2.out)
   (case side3 => exact mC (yM HR1_3.out HB.out))
   (case side4 => exact HC1_3.out)
   rintro e w14 ⟨rfl, hb⟩
   refine ⟨_, rfl, ?_⟩
   have n0_ := yA (yU (mK BK375.out) hb)
   have n1_ := yA (yU (mK BK376.out) hb)
   have n2_ := yA (zD (by with_reducible repeat first | exact HB.out | apply yO | apply yN | apply yP | refine yQ ?_ GE375.out | refine yQ ?_ GE376.out) hb)
   clear BK375
   clear BK376
   clear HB
   have BK375 := n0_
   have BK376 := n1_
   have HB := n2_
   clear n0_ n1_ n2_
   (try clear hb)
   (try clear hb2)
   (try clear hk)
   (try clear hi)
   refine hK.out _ _ ⟨(yV BK375.out 0).trans rfl, (yV BK375.out 1).trans rfl, (yV BK375.out 2).trans rfl, (yV BK375.out 3).trans rfl, (yV BK376.out 0).trans rfl, (yV BK376.out 1).trans rfl, (yV BK376.out 2).trans rfl, (yV BK376.out 3).trans rfl⟩ (fun hHeld => ?_)
   clear hK K
   refine norm_ (a' := ?_) ?_ ?_
   rotate_left
   ·show Act.put _ (some 9) _ = _
    simp only [Act.put, zA, zB, zC, i64_w, i32_w]
    rfl
   refine pure_ (i := 5) (N := some 10) (v := ?_) (a' := ?_) #[true, true, true, true, true, true, false, false, false, false, false, false, false, false] rfl rfl (any_of HT_.out (by kernel_rfl)) (fun _ _ _ h => h) (Or.inl ⟨by rfl, ?_⟩) ?_ ?_
   rotate_left
   ·intro w'
    go_simp
    with_reducible rfl
   rotate_left
   ·simp only [Act.put, zA, zB, zC, i64_w, i32_w]
    rfl
   refine pure_ (i := 6) (N := some 11) (v := ?_) (a' := ?_) #[true, true, true, true, true, true, true, false, false, false, false, false, false, false] rfl rfl (any_of HT_.out (by kernel_rfl)) (fun _ _ _ h => h) (Or.inl ⟨by rfl, ?_⟩) ?_ ?_
   rotate_left
   ·intro w'
    go_simp
    with_reducible rfl
   rotate_left
   ·simp only [Act.put, zA, zB, zC, i64_w, i32_w]
    rfl
   refine take_ (i := 7) (N := some 12) (v := ?_) (a' := ?_) #[true, true, true, true, true, true, true, true, false, false, false, false, false, false] rfl rfl (take_ofW HT_.out HW_.out (by kernel_rfl)) (fun _ _ _ h => h) (Or.inl ⟨by rfl, ?_⟩) hHeld ?_ ?_
   rotate_left
   ·rintro w' ⟨s0, s1, s2, s3, s4, s5, s6, s7⟩
    go_simp
    with_reducible rfl
   rotate_left
   ·simp only [Act.put, zA, zB, zC, i64_w, i32_w]
    rfl
   refine take_ (i := 9) (N := some 14) (v := ?_) (a' := ?_) #[true, true, true, true, true, true, true, true, false, true, false, false, false, false] rfl rfl (take_ofW HT_.out HW_.out (by kernel_rfl)) (fun _ _ _ h => h) (Or.inl ⟨by rfl, ?_⟩) hHeld ?_ ?_
   rotate_left
   ·rintro w' ⟨s0, s1, s2, s3, s4, s5, s6, s7⟩
    go_simp
    with_reducible rfl
   rotate_left
   ·simp only [Act.put, zA, zB, zC, i64_w, i32_w]
    rfl
   refine one_ (i := 8) (N := some 13) #[true, true, true, true, true, true, true, true, true, true, false, false, false, false] rfl rfl (one_of HT_.out (by kernel_rfl)) (by decide) (fun K hK => ?_)
   refine goes_ Try.func84 (by kernel_rfl) rfl #[.agg #[.int .i64 a0_0, .int .i64 a0_1, .slice A0_2 l0_2.length c0_2, .slice A0_3 l0_3.length c0_3]] (by rfl) rfl rfl (by (try simp only [zI, zJ, zK]); first | done | rfl | (simp only [zL, zM]; rfl)) ?_
   with_reducible refine (impl_Relation_reduced.calls k a0_0 a0_1 _ _ l0_2 _ _ l0_3 t379 t380 t381 t384 _ ?side1 ?side2 ?side3 ?side4 A7.out).mono ?_
   (case side1 => exact mC (yM HR0_2.out HB.out))
   (case side2 => exact HC0_2.out)
   (case side3 => exact mC (yM HR0_3.out HB.out))
   (case side4 => exact HC0_3.out)
   rintro e w15 ⟨v382, v385, rfl, ho0, ho1, hb⟩
   refine ⟨_, rfl, ?_⟩
   have n0_ := yA (Kd.S_lower ho0 (yX (by with_reducible repeat first | exact HB.out | apply yO | apply yN | apply yP | refine yQ ?_ GE375.out | refine yQ ?_ GE376.out)))
   have n1_ := yA (Kd.R_lower ho1 (yX (by with_reducible repeat first | exact HB.out | apply yO | apply yN | apply yP | refine yQ ?_ GE375.out | refine yQ ?_ GE376.out)))
   have n2_ := yA (yU (mK BK375.out) hb)
   have n3_ := yA (yU (mK BK376.out) hb)
   have n4_ := yA (zD (by with_reducible repeat first | exact HB.out | apply yO | apply yN | apply yP | refine yQ ?_ GE375.out | refine yQ ?_ GE376.out) hb)
   clear BK375
   clear BK376
   clear HB
   have HO383 := n0_
   have HO386 := n1_
   have BK375 := n2_
   have BK376 := n3_
   have HB := n4_
   clear n0_ n1_ n2_ n3_ n4_
   (try clear hb)
   (try clear hb2)
   (try clear hk)
   (try clear hi)
   (try clear ho0)
   (try clear ho1)
   refine hK.out _ _ ⟨(yV BK375.out 0).trans rfl, (yV BK375.out 1).trans rfl, (yV BK375.out 2).trans rfl, (yV BK375.out 3).trans rfl, (yV BK376.out 0).trans rfl, (yV BK376.out 1).trans rfl, (yV BK376.out 2).trans rfl, (yV BK376.out 3).trans rfl⟩ (fun hHeld => ?_)
   clear hK K
   refine norm_ (a' := ?_) ?_ ?_
   rotate_left
   ·show Act.put _ (some 13) _ = _
    simp only [Act.put, zA, zB, zC, i64_w, i32_w]
    rfl
   refine one_ (i := 10) (N := some 15) #[true, true, true, true, true, true, true, true, true, true, true, false, false, false] rfl rfl (one_of HT_.out (by kernel_rfl)) (by decide) (fun K hK => ?_)
   refine goes_ Try.func84 (by kernel_rfl) rfl #[.agg #[.int .i64 a1_0, .int .i64 a1_1, .slice A1_2 l1_2.length c1_2, .slice A1_3 l1_3.length c1_3]] (by rfl) rfl rfl (by (try simp only [zI, zJ, zK]); first | done | rfl | (simp only [zL, zM]; rfl)) ?_
   with_reducible refine (impl_Relation_reduced.calls k a1_0 a1_1 _ _ l1_2 _ _ l1_3 t387 t388 t389 t392 _ ?side1 ?side2 ?side3 ?side4 A8.out).mono ?_
   (case side1 => exact mC (yM HR1_2.out HB.out))
   (case side2 => exact HC1_2.out)
   (case side3 => exact mC (yM HR1_3.out HB.out))
   (case side4 => exact HC1_3.out)
   rintro e w16 ⟨v390, v393, rfl, ho0, ho1, hb⟩
   refine ⟨_, rfl, ?_⟩
   have n0_ := yA (Kd.S_elder' (mS HO383.out) (Kd.S_base ho0) hb)
   have n1_ := yA (zO (mR HO386.out) (yY ho1) hb)
   have n2_ := yA (Kd.S_lower (Kd.S_new' ho0 (Kd.S_lt (mS HO383.out))) (yX (by with_reducible repeat first | exact HB.out | apply yO | apply yN | apply yP | refine yQ ?_ GE375.out | refine yQ ?_ GE376.out)))
   have n3_ := yA (Kd.R_lower (Kd.R_new' ho1 (yZ (mR HO386.out))) (yX (by with_reducible repeat first | exact HB.out | apply yO | apply yN | apply yP | refine yQ ?_ GE375.out | refine yQ ?_ GE376.out)))
   have n4_ := yA (yU (mK BK375.out) hb)
   have n5_ := yA (yU (mK BK376.out) hb)
   have n6_ := yA (zD (by with_reducible repeat first | exact HB.out | apply yO | apply yN | apply yP | refine yQ ?_ GE375.out | refine yQ ?_ GE376.out) hb)
   clear HO383
   clear HO386
   clear BK375
   clear BK376
   clear HB
   have HO383 := n0_
   have HO386 := n1_
   have HO391 := n2_
   have HO394 := n3_
   have BK375 := n4_
   have BK376 := n5_
   have HB := n6_
   clear n0_ n1_ n2_ n3_ n4_ n5_ n6_
   (try clear hb)
   (try clear hb2)
   (try clear hk)
   (try clear hi)
   (try clear ho0)
   (try clear ho1)
   obtain ⟨Ao17, co17, eo17⟩ := Kd.S_slice HO383.out
   (first | subst eo17 | (injection eo17 with f1_ f2_ f3_; have f4_ := f1_.symm; have f5_ := f3_.symm; clear f1_ f2_ f3_; subst f4_; subst f5_))
   obtain ⟨Ao18, co18, eo18⟩ := Kd.R_slice HO386.out
   (first | subst eo18 | (injection eo18 with f1_ f2_ f3_; have f4_ := f1_.symm; have f5_ := f3_.symm; clear f1_ f2_ f3_; subst f4_; subst f5_))
   obtain ⟨Ao19, co19, eo19⟩ := Kd.S_slice HO391.out
   (first | subst eo19 | (injection eo19 with f1_ f2_ f3_; have f4_ := f1_.symm; have f5_ := f3_.symm; clear f1_ f2_ f3_; subst f4_; subst f5_))
   obtain ⟨Ao20, co20, eo20⟩ := Kd.R_slice HO394.out
   (first | subst eo20 | (injection eo20 with f1_ f2_ f3_; have f4_ := f1_.symm; have f5_ := f3_.symm; clear f1_ f2_ f3_; subst f4_; subst f5_))
   refine hK.out _ _ ⟨(yV BK375.out 0).trans rfl, (yV BK375.out 1).trans rfl, (yV BK375.out 2).trans rfl, (yV BK375.out 3).trans rfl, (yV BK376.out 0).trans rfl, (yV BK376.out 1).trans rfl, (yV BK376.out 2).trans rfl, (yV BK376.out 3).trans rfl⟩ (fun hHeld => ?_)
   clear hK K
   refine norm_ (a' := ?_) ?_ ?_
   rotate_left
   ·show Act.put _ (some 15) _ = _
    simp only [Act.put, zA, zB, zC, i64_w, i32_w]
    rfl
   refine one_ (i := 11) (N := some 16) #[true, true, true, true, true, true, true, true, true, true, true, true, false, false] rfl rfl (one_of HT_.out (by kernel_rfl)) (by decide) (fun K hK => ?_)
   refine goes_ Try.func83 (by kernel_rfl) rfl #[.agg #[.int .i64 t379, .int .i64 t380, .slice Ao17 t381.length co17, .slice Ao18 t384.length co18], .agg #[.int .i64 t387, .int .i64 t388, .slice Ao19 t389.length co19, .slice Ao20 t392.length co20]] (by rfl) rfl rfl (by (try simp only [zI, zJ, zK]); first | done | rfl | (simp only [zL, zM]; rfl)) ?_
   with_reducible refine (impl_SameRelation.calls k t379 t380 _ _ t381 _ _ t384 t387 t388 _ _ t389 _ _ t392 t395 _ ?side1 ?side2 ?side3 ?side4 ?side5 ?side6 ?side7 ?side8 A9.out).mono ?_
   (case side1 => exact mC ((Kd.S_reads' HO383.out).2.2))
   (case side2 => exact (Kd.S_reads' HO383.out).2.1)
   (case side3 => exact mC ((zN HO386.out).2.2))
   (case side4 => exact (zN HO386.out).2.1)
   (case side5 => exact mC ((Kd.S_reads' HO391.out).2.2))
   (case side6 => exact (Kd.S_reads' HO391.out).2.1)
   (case side7 => exact mC ((zN HO394.out).2.2))
   (case side8 => exact (zN HO394.out).2.1)
   rintro e w21 ⟨rfl, hb⟩
   refine ⟨_, rfl, ?_⟩
   have n0_ := yA (yL (mS HO383.out) hb)
   have n1_ := yA (yK (mR HO386.out) hb)
   have n2_ := yA (yL (mS HO391.out) hb)
   have n3_ := yA (yK (mR HO394.out) hb)
   have n4_ := yA (yU (mK BK375.out) hb)
   have n5_ := yA (yU (mK BK376.out) hb)
   have n6_ := yA (zD (by with_reducible repeat first | exact HB.out | apply yO | apply yN | apply yP | refine yQ ?_ GE375.out | refine yQ ?_ GE376.out) hb)
   clear HO383
   clear HO386
   clear HO391
   clear HO394
   clear BK375
   clear BK376
   clear HB
   have HO383 := n0_
   have HO386 := n1_
   have HO391 := n2_
   have HO394 := n3_
   have BK375 := n4_
   have BK376 := n5_
   have HB := n6_
   clear n0_ n1_ n2_ n3_ n4_ n5_ n6_
   (try clear hb)
   (try clear hb2)
   (try clear hk)
   (try clear hi)
   refine hK.out _ _ ⟨(yV BK375.out 0).trans rfl, (yV BK375.out 1).trans rfl, (yV BK375.out 2).trans rfl, (yV BK375.out 3).trans rfl, (yV BK376.out 0).trans rfl, (yV BK376.out 1).trans rfl, (yV BK376.out 2).trans rfl, (yV BK376.out 3).trans rfl⟩ (fun hHeld => ?_)
   clear hK K
   refine norm_ (a' := ?_) ?_ ?_
   rotate_left
   ·show Act.put _ (some 16) _ = _
    simp only [Act.put, zA, zB, zC, i64_w, i32_w]
    rfl
   refine pure_ (i := 12) (N := some 17) (v := ?_) (a' := ?_) #[true, true, true, true, true, true, true, true, true, true, true, true, true, false] rfl rfl (any_of HT_.out (by kernel_rfl)) (fun _ _ _ h => h) (Or.inl ⟨by rfl, ?_⟩) ?_ ?_
   rotate_left
   ·intro w'
    go_simp
    with_reducible rfl
   rotate_left
   ·simp only [Act.put, zA, zB, zC, i64_w, i32_w]
    rfl
   refine pure_ (i := 13) (N := some 4) (v := ?_) (a' := ?_) #[true, true, true, true, true, true, true, true, true, true, true, true, true, true] rfl rfl (any_of HT_.out (by kernel_rfl)) (fun _ _ _ h => h) (Or.inl ⟨by rfl, ?_⟩) ?_ ?_
   rotate_left
   ·intro w'
    go_simp
    with_reducible rfl
   rotate_left
   ·simp only [Act.put, zA, zB, zC, i64_w, i32_w]
    rfl
   refine done_ (done_of HT_.out (by kernel_rfl)) ?_
   try go_wp2
   go_ret
   exact ⟨by first | rfl | (simp [errW_none, errW_some] <;> rfl) | (simp [*, errW_none, errW_some] <;> rfl), by repeat (first | (with_reducible first | exact HB.out | apply yO | apply yN | apply yP | refine yQ ?_ GE375.out | refine yQ ?_ GE376.out) | exact HB.out)⟩
  ·replace c6 := Bool.eq_false_iff.mpr c6
   subst c6
   have H1 : (some false) = some r := by rw [if_neg (show ¬ (false = true) by decide)] at H; exact H
   clear H
   have H := H1
   clear H1
   obtain rfl := zU H
   go_enter Try.func44, Try.ntmps44
   try go_wp2_with (first | ((with_reducible refine gate_dst (N := 2) rfl ?_); refine box_event ?hg (N := 2) ?hd (cs := #[.int .i64 a0_0, .int .i64 a0_1, .slice A0_2 l0_2.length c0_2, .slice A0_3 l0_3.length c0_3]) (t := 25) ?hr ?_; (case hd => rfl); (case hg => rfl); (case hr => first | (go_simp; done) | (go_simp; rfl)); intro gb375 hg w22 hbox hb; have n0_ := yA (zD (mB HB.out) hb); have n1_ := yA (hbox); have n2_ := yA ((by rw [hg]; exact (yX (mB HB.out)) : w.heap.size ≤ gb375)); have n3_ := yA ((by rw [hg]; exact (yX (mB HB.out)) : w.heap.size ≤ gb375)); clear HB; have HB := n0_; have BK375 := n1_; have GW375 := n2_; have GE375 := n3_; clear n0_ n1_ n2_ n3_; clear hb hbox hg) | ((with_reducible refine gate_dst (N := 3) rfl ?_); refine box_event ?hg (N := 3) ?hd (cs := #[.int .i64 a1_0, .int .i64 a1_1, .slice A1_2 l1_2.length c1_2, .slice A1_3 l1_3.length c1_3]) (t := 25) ?hr ?_; (case hd => rfl); (case hg => rfl); (case hr => first | (go_simp; done) | (go_simp; rfl)); intro gb376 hg w23 hbox hb; have n0_ := yA (yU (mK BK375.out) hb); have n1_ := yA (zD (by with_reducible repeat first | exact HB.out | apply yO | apply yN | apply yP | refine yQ ?_ GE375.out) hb); have n2_ := yA (hbox); have n3_ := yA ((by rw [hg]; exact (yX (by with_reducible repeat first | exact HB.out | apply yO | apply yN | apply yP | refine yQ ?_ GE375.out)) : w.heap.size ≤ gb376)); have n4_ := yA ((by rw [hg]; exact (yX (by with_reducible repeat first | exact HB.out | apply yO | apply yN | apply yP | refine yQ ?_ GE375.out)) : w.heap.size ≤ gb376)); have n5_ := yA ((by rw [hg]; exact Nat.ne_of_lt (zX (mK BK375.out)) : gb375 ≠ gb376)); have n6_ := yA ((by rw [hg]; exact Nat.ne_of_gt (zX (mK BK375.out)) : gb376 ≠ gb375)); clear BK375; clear HB; have BK375 := n0_; have HB := n1_; have BK376 := n2_; have GW376 := n3_; have GE376 := n4_; have NB375_376 := n5_; have NB376_375 := n6_; clear n0_ n1_ n2_ n3_ n4_ n5_ n6_; clear hb hbox hg))
   have n0_ := yA (yT BK375.out)
   have n1_ := yA (yT BK376.out)
   have n2_ := yA (yP HB.out)
   clear BK375
   clear BK376
   clear HB
   have BK375 := n0_
   have BK376 := n1_
   have HB := n2_
   clear n0_ n1_ n2_
   refine start_ (n := 14) (S := fun w' => w'.cell? ⟨gb375, 0, none⟩ = some (.int .i64 a0_0) ∧ w'.cell? ⟨gb375, 1, none⟩ = some (.int .i64 a0_1) ∧ w'.cell? ⟨gb375, 2, none⟩ = some (.slice A0_2 l0_2.length c0_2) ∧ w'.cell? ⟨gb375, 3, none⟩ = some (.slice A0_3 l0_3.length c0_3) ∧ w'.cell? ⟨gb376, 0, none⟩ = some (.int .i64 a1_0) ∧ w'.cell? ⟨gb376, 1, none⟩ = some (.int .i64 a1_1) ∧ w'.cell? ⟨gb376, 2, none⟩ = some (.slice A1_2 l1_2.length c1_2) ∧ w'.cell? ⟨gb376, 3, none⟩ = some (.slice A1_3 l1_3.length c1_3)) (ds := []) #[false, false, false, false, false, false, false, false, false, false, false, false, false, false] (by kernel_rfl) rfl rfl ⟨(yV BK375.out 0).trans rfl, (yV BK375.out 1).trans rfl, (yV BK375.out 2).trans rfl, (yV BK375.out 3).trans rfl, (yV BK376.out 0).trans rfl, (yV BK376.out 1).trans rfl, (yV BK376.out 2).trans rfl, (yV BK376.out 3).trans rfl⟩ (fun hHeld => ?_); refine with_tabW impl_AreSameSets.tab1 impl_AreSameSets.bits1 (fun HT_ HW_ => ?_)
   generalize w23.drew = w24 at BK375 BK376 HB hHeld ⊢
   refine take_ (i := 0) (N := some 5) (v := ?_) (a' := ?_) #[true, false, false, false, false, false, false, false, false, false, false, false, false, false] rfl rfl (take_ofW HT_.out HW_.out (by kernel_rfl)) (fun _ _ _ h => h) (Or.inl ⟨by rfl, ?_⟩) hHeld ?_ ?_
   rotate_left
   ·rintro w' ⟨s0, s1, s2, s3, s4, s5, s6, s7⟩
    go_simp
    with_reducible rfl
   rotate_left
   ·simp only [Act.put, zA, zB, zC, i64_w, i32_w]
    rfl
   refine one_ (i := 1) (N := some 6) #[true, true, false, false, false, false, false, false, false, false, false, false, false, false] rfl rfl (one_of HT_.out (by kernel_rfl)) (by decide) (fun K hK => ?_)
   refine goes_ Try.func65 (by kernel_rfl) rfl #[.agg #[.int .i64 a0_0, .int .i64 a0_1, .slice A0_2 l0_2.length c0_2, .slice A0_3 l0_3.length c0_3]] (by rfl) rfl rfl (by (try simp only [zI, zJ, zK]); first | done | rfl | (simp only [zL, zM]; rfl)) ?_
   with_reducible refine (impl_IsRelation.calls k a0_0 a0_1 _ _ l0_2 _ _ l0_3 true _ ?side1 ?side2 ?side3 ?side4 A3.out).mono ?_
   (case side1 => exact mC (yM HR0_2.out HB.out))
   (case side2 => exact HC0_2.out)
   (case side3 => exact mC (yM HR0_3.out HB.out))
   (case side4 => exact HC0_3.out)
   rintro e w25 ⟨rfl, hb⟩
   refine ⟨_, rfl, ?_⟩
   have n0_ := yA (yU (mK BK375.out) hb)
   have n1_ := yA (yU (mK BK376.out) hb)
   have n2_ := yA (zD (by with_reducible repeat first | exact HB.out | apply yO | apply yN | apply yP | refine yQ ?_ GE375.out | refine yQ ?_ GE376.out) hb)
   clear BK375
   clear BK376
   clear HB
   have BK375 := n0_
   have BK376 := n1_
   have HB := n2_
   clear n0_ n1_ n2_
   (try clear hb)
   (try clear hb2)
   (try clear hk)
   (try clear hi)
   refine hK.out _ _ ⟨(yV BK375.out 0).trans rfl, (yV BK375.out 1).trans rfl, (yV BK375.out 2).trans rfl, (yV BK375.out 3).trans rfl, (yV BK376.out 0).trans rfl, (yV BK376.out 1).trans rfl, (yV BK376.out 2).trans rfl, (yV BK376.out 3).trans rfl⟩ (fun hHeld => ?_)
   clear hK K
   refine norm_ (a' := ?_) ?_ ?_
   rotate_left
   ·show Act.put _ (some 6) _ = _
    simp only [Act.put, zA, zB, zC, i64_w, i32_w]
    rfl
   refine pure_ (i := 2) (N := some 7) (v := ?_) (a' := ?_) #[true, true, true, false, false, false, false, false, false, false, false, false, false, false] rfl rfl (any_of HT_.out (by kernel_rfl)) (fun _ _ _ h => h) (Or.inl ⟨by rfl, ?_⟩) ?_ ?_
   rotate_left
   ·intro w'
    go_simp
    with_reducible rfl
   rotate_left
   ·simp only [Act.put, zA, zB, zC, i64_w, i32_w]
    rfl
   refine take_ (i := 3) (N := some 8) (v := ?_) (a' := ?_) #[true, true, true, true, false, false, false, false, false, false, false, false, false, false] rfl rfl (take_ofW HT_.out HW_.out (by kernel_rfl)) (fun _ _ _ h => h) (Or.inl ⟨by rfl, ?_⟩) hHeld ?_ ?_
   rotate_left
   ·rintro w' ⟨s0, s1, s2, s3, s4, s5, s6, s7⟩
    go_simp
    with_reducible rfl
   rotate_left
   ·simp only [Act.put, zA, zB, zC, i64_w, i32_w]
    rfl
   refine one_ (i := 4) (N := some 9) #[true, true, true, true, true, false, false, false, false, false, false, false, false, false] rfl rfl (one_of HT_.out (by kernel_rfl)) (by decide) (fun K hK => ?_)
   refine goes_ Try.func65 (by kernel_rfl) rfl #[.agg #[.int .i64 a1_0, .int .i64 a1_1, .slice A1_2 l1_2.length c1_2, .slice A1_3 l1_3.length c1_3]] (by rfl) rfl rfl (by (try simp only [zI, zJ, zK]); first | done | rfl | (simp only [zL, zM]; rfl)) ?_
   with_reducible refine (impl_IsRelation.calls k a1_0 a1_1 _ _ l1_2 _ _ l1_3 false _ ?side1 ?side2 ?side3 ?side4 A5.out).mono ?_
   (case side1 => exact mC (yM HR1_2.out HB.out))
   (case side2 => exact HC1_2.out)
   (case side3 => exact mC (yM HR1_3.out HB.out))
   (case side4 => exact HC1_3.out)
   rintro e w26 ⟨rfl, hb⟩
   refine ⟨_, rfl, ?_⟩
   have n0_ := yA (yU (mK BK375.out) hb)
   have n1_ := yA (yU (mK BK376.out) hb)
   have n2_ := yA (zD (by with_reducible repeat first | exact HB.out | apply yO | apply yN | apply yP | refine yQ ?_ GE375.out | refine yQ ?_ GE376.out) hb)
   clear BK375
   clear BK376
   clear HB
   have BK375 := n0_
   have BK376 := n1_
   have HB := n2_
   clear n0_ n1_ n2_
   (try clear hb)
   (try clear hb2)
   (try clear hk)
   (try clear hi)
   refine hK.out _ _ ⟨(yV BK375.out 0).trans rfl, (yV BK375.out 1).trans rfl, (yV BK375.out 2).trans rfl, (yV BK375.out 3).trans rfl, (yV BK376.out 0).trans rfl, (yV BK376.out 1).trans rfl, (yV BK376.out 2).trans rfl, (yV BK376.out 3).trans rfl⟩ (fun hHeld => ?_)
   clear hK K
   refine norm_ (a' := ?_) ?_ ?_
   rotate_left
   ·show Act.put _ (some 9) _ = _
    simp only [Act.put, zA, zB, zC, i64_w, i32_w]
    rfl
   refine pure_ (i := 5) (N := some 10) (v := ?_) (a' := ?_) #[true, true, true, true, true, true, false, false, false, false, false, false, false, false] rfl rfl (any_of HT_.out (by kernel_rfl)) (fun _ _ _ h => h) (Or.inl ⟨by rfl, ?_⟩) ?_ ?_
   rotate_left
   ·intro w'
    go_simp
    with_reducible rfl
   rotate_left
   ·simp only [Act.put, zA, zB, zC, i64_w, i32_w]
    rfl
   refine pure_ (i := 6) (N := some 11) (v := ?_) (a' := ?_) #[true, true, true, true, true, true, true, false, false, false, false, false, false, false] rfl rfl (any_of HT_.out (by kernel_rfl)) (fun _ _ _ h => h) (Or.inl ⟨by rfl, ?_⟩) ?_ ?_
   rotate_left
   ·intro w'
    go_simp
    with_reducible rfl
   rotate_left
   ·simp only [Act.put, zA, zB, zC, i64_w, i32_w]
    rfl
   refine pure_ (i := 7) (N := some 12) (v := undef) (a' := ?_) #[true, true, true, true, true, true, true, true, false, false, false, false, false, false] rfl rfl (any_of HT_.out (by kernel_rfl)) (fun _ _ _ h => h) (Or.inr ⟨by rfl, rfl⟩) ?_ ?_
   rotate_left
   ·simp only [Act.put, zA, zB, zC, i64_w, i32_w]
    rfl
   refine pure_ (i := 8) (N := some 13) (v := undef) (a' := ?_) #[true, true, true, true, true, true, true, true, true, false, false, false, false, false] rfl rfl (any_of HT_.out (by kernel_rfl)) (fun _ _ _ h => h) (Or.inr ⟨by rfl, rfl⟩) ?_ ?_
   rotate_left
   ·simp only [Act.put, zA, zB, zC, i64_w, i32_w]
    rfl
   refine pure_ (i := 9) (N := some 14) (v := undef) (a' := ?_) #[true, true, true, true, true, true, true, true, true, true, false, false, false, false] rfl rfl (any_of HT_.out (by kernel_rfl)) (fun _ _ _ h => h) (Or.inr ⟨by rfl, rfl⟩) ?_ ?_
   rotate_left
   ·simp only [Act.put, zA, zB, zC, i64_w, i32_w]
    rfl
   refine pure_ (i := 10) (N := some 15) (v := undef) (a' := ?_) #[true, true, true, true, true, true, true, true, true, true, true, false, false, false] rfl rfl (any_of HT_.out (by kernel_rfl)) (fun _ _ _ h => h) (Or.inr ⟨by rfl, rfl⟩) ?_ ?_
   rotate_left
   ·simp only [Act.put, zA, zB, zC, i64_w, i32_w]
    rfl
   refine pure_ (i := 11) (N := some 16) (v := undef) (a' := ?_) #[true, true, true, true, true, true, true, true, true, true, true, true, false, false] rfl rfl (any_of HT_.out (by kernel_rfl)) (fun _ _ _ h => h) (Or.inr ⟨by rfl, rfl⟩) ?_ ?_
   rotate_left
   ·simp only [Act.put, zA, zB, zC, i64_w, i32_w]
    rfl
   refine pure_ (i := 12) (N := some 17) (v := ?_) (a' := ?_) #[true, true, true, true, true, true, true, true, true, true, true, true, true, false] rfl rfl (any_of HT_.out (by kernel_rfl)) (fun _ _ _ h => h) (Or.inl ⟨by rfl, ?_⟩) ?_ ?_
   rotate_left
   ·intro w'
    go_simp
    with_reducible rfl
   rotate_left
   ·simp only [Act.put, zA, zB, zC, i64_w, i32_w]
    rfl
   refine pure_ (i := 13) (N := some 4) (v := ?_) (a' := ?_) #[true, true, true, true, true, true, true, true, true, true, true, true, true, true] rfl rfl (any_of HT_.out (by kernel_rfl)) (fun _ _ _ h => h) (Or.inl ⟨by rfl, ?_⟩) ?_ ?_
   rotate_left
   ·intro w'
    go_simp
    with_reducible rfl
   rotate_left
   ·simp only [Act.put, zA, zB, zC, i64_w, i32_w]
    rfl
   refine done_ (done_of HT_.out (by kernel_rfl)) ?_
   try go_wp2
   go_ret
   exact ⟨by first | rfl | (simp [errW_none, errW_some] <;> rfl) | (simp [*, errW_none, errW_some] <;> rfl), by repeat (first | (with_reducible first | exact HB.out | apply yO | apply yN | apply yP | refine yQ ?_ GE375.out | refine yQ ?_ GE376.out) | exact HB.out)⟩
 ·replace c4 := Bool.eq_false_iff.mpr c4
  subst c4
  have H1 : (some false) = some r := by rw [if_neg (show ¬ (false = true) by decide)] at H; exact H
  clear H
  have H := H1
  clear H1
  obtain rfl := zU H
  go_enter Try.func44, Try.ntmps44
  try go_wp2_with (first | ((with_reducible refine gate_dst (N := 2) rfl ?_); refine box_event ?hg (N := 2) ?hd (cs := #[.int .i64 a0_0, .int .i64 a0_1, .slice A0_2 l0_2.length c0_2, .slice A0_3 l0_3.length c0_3]) (t := 25) ?hr ?_; (case hd => rfl); (case hg => rfl); (case hr => first | (go_simp; done) | (go_simp; rfl)); intro gb375 hg w27 hbox hb; have n0_ := yA (zD (mB HB.out) hb); have n1_ := yA (hbox); have n2_ := yA ((by rw [hg]; exact (yX (mB HB.out)) : w.heap.size ≤ gb375)); have n3_ := yA ((by rw [hg]; exact (yX (mB HB.out)) : w.heap.size ≤ gb375)); clear HB; have HB := n0_; have BK375 := n1_; have GW375 := n2_; have GE375 := n3_; clear n0_ n1_ n2_ n3_; clear hb hbox hg) | ((with_reducible refine gate_dst (N := 3) rfl ?_); refine box_event ?hg (N := 3) ?hd (cs := #[.int .i64 a1_0, .int .i64 a1_1, .slice A1_2 l1_2.length c1_2, .slice A1_3 l1_3.length c1_3]) (t := 25) ?hr ?_; (case hd => rfl); (case hg => rfl); (case hr => first | (go_simp; done) | (go_simp; rfl)); intro gb376 hg w28 hbox hb; have n0_ := yA (yU (mK BK375.out) hb); have n1_ := yA (zD (by with_reducible repeat first | exact HB.out | apply yO | apply yN | apply yP | refine yQ ?_ GE375.out) hb); have n2_ := yA (hbox); have n3_ := yA ((by rw [hg]; exact (yX (by with_reducible repeat first | exact HB.out | apply yO | apply yN | apply yP | refine yQ ?_ GE375.out)) : w.heap.size ≤ gb376)); have n4_ := yA ((by rw [hg]; exact (yX (by with_reducible repeat first | exact HB.out | apply yO | apply yN | apply yP | refine yQ ?_ GE375.out)) : w.heap.size ≤ gb376)); have n5_ := yA ((by rw [hg]; exact Nat.ne_of_lt (zX (mK BK375.out)) : gb375 ≠ gb376)); have n6_ := yA ((by rw [hg]; exact Nat.ne_of_gt (zX (mK BK375.out)) : gb376 ≠ gb375)); clear BK375; clear HB; have BK375 := n0_; have HB := n1_; have BK376 := n2_; have GW376 := n3_; have GE376 := n4_; have NB375_376 := n5_; have NB376_375 := n6_; clear n0_ n1_ n2_ n3_ n4_ n5_ n6_; clear hb hbox hg))
  have n0_ := yA (yT BK375.out)
  have n1_ := yA (yT BK376.out)
  have n2_ := yA (yP HB.out)
  clear BK375
  clear BK376
  clear HB
  have BK375 := n0_
  have BK376 := n1_
  have HB := n2_
  clear n0_ n1_ n2_
  refine start_ (n := 14) (S := fun w' => w'.cell? ⟨gb375, 0, none⟩ = some (.int .i64 a0_0) ∧ w'.cell? ⟨gb375, 1, none⟩ = some (.int .i64 a0_1) ∧ w'.cell? ⟨gb375, 2, none⟩ = some (.slice A0_2 l0_2.length c0_2) ∧ w'.cell? ⟨gb375, 3, none⟩ = some (.slice A0_3 l0_3.length c0_3)) (ds := []) #[false, false, false, false, false, false, false, false, false, false, false, false, false, false] (by kernel_rfl) rfl rfl ⟨(yV BK375.out 0).trans rfl, (yV BK375.out 1).trans rfl, (yV BK375.out 2).trans rfl, (yV BK375.out 3).trans rfl⟩ (fun hHeld => ?_); refine with_tabW impl_AreSameSets.tab1 impl_AreSameSets.bits1 (fun HT_ HW_ => ?_)
  generalize w28.drew = w29 at BK375 BK376 HB hHeld ⊢
  refine take_ (i := 0) (N := some 5) (v := ?_) (a' := ?_) #[true, false, false, false, false, false, false, false, false, false, false, false, false, false] rfl rfl (take_ofW HT_.out HW_.out (by kernel_rfl)) (fun _ _ _ h => h) (Or.inl ⟨by rfl, ?_⟩) hHeld ?_ ?_
  rotate_left
  ·rintro w' ⟨s0, s1, s2, s3⟩
   go_simp
   with_reducible rfl
  rotate_left
  ·simp only [Act.put, zA, zB, zC, i64_w, i32_w]
   rfl
  refine one_ (i := 1) (N := some 6) #[true, true, false, false, false, false, false, false, false, false, false, false, false, false] rfl rfl (one_of HT_.out (by kernel_rfl)) (by decide) (fun K hK => ?_)
  refine goes_ Try.func65 (by kernel_rfl) rfl #[.agg #[.int .i64 a0_0, .int .i64 a0_1, .slice A0_2 l0_2.length c0_2, .slice A0_3 l0_3.length c0_3]] (by rfl) rfl rfl (by (try simp only [zI, zJ, zK]); first | done | rfl | (simp only [zL, zM]; rfl)) ?_
  with_reducible refine (impl_IsRelation.calls k a0_0 a0_1 _ _ l0_2 _ _ l0_3 false _ ?side1 ?side2 ?side3 ?side4 A3.out).mono ?_
  (case side1 => exact mC (yM HR0_2.out HB.out))
  (case side2 => exact HC0_2.out)
  (case side3 => exact mC (yM HR0_3.out HB.out))
  (case side4 => exact HC0_3.out)
  rintro e w30 ⟨rfl, hb⟩
  refine ⟨_, rfl, ?_⟩
  have n0_ := yA (yU (mK BK375.out) hb)
  have n1_ := yA (yU (mK BK376.out) hb)
  have n2_ := yA (zD (by with_reducible repeat first | exact HB.out | apply yO | apply yN | apply yP | refine yQ ?_ GE375.out | refine yQ ?_ GE376.out) hb)
  clear BK375
  clear BK376
  clear HB
  have BK375 := n0_
  have BK376 := n1_
  have HB := n2_
  clear n0_ n1_ n2_
  (try clear hb)
  (try clear hb2)
  (try clear hk)
  (try clear hi)
  refine hK.out _ _ ⟨(yV BK375.out 0).trans rfl, (yV BK375.out 1).trans rfl, (yV BK375.out 2).trans rfl, (yV BK375.out 3).trans rfl⟩ (fun hHeld => ?_)
  clear hK K
  refine norm_ (a' := ?_) ?_ ?_
  rotate_left
  ·show Act.put _ (some 6) _ = _
   simp only [Act.put, zA, zB, zC, i64_w, i32_w]
   rfl
  refine pure_ (i := 2) (N := some 7) (v := ?_) (a' := ?_) #[true, true, true, false, false, false, false, false, false, false, false, false, false, false] rfl rfl (any_of HT_.out (by kernel_rfl)) (fun _ _ _ h => h) (Or.inl ⟨by rfl, ?_⟩) ?_ ?_
  rotate_left
  ·intro w'
   go_simp
   with_reducible rfl
  rotate_left
  ·simp only [Act.put, zA, zB, zC, i64_w, i32_w]
   rfl
  refine pure_ (i := 3) (N := some 8) (v := undef) (a' := ?_) #[true, true, true, true, false, false, false, false, false, false, false, false, false, false] rfl rfl (any_of HT_.out (by kernel_rfl)) (fun _ _ _ h => h) (Or.inr ⟨by rfl, rfl⟩) ?_ ?_
  rotate_left
  ·simp only [Act.put, zA, zB, zC, i64_w, i32_w]
   rfl
  refine pure_ (i := 4) (N := some 9) (v := undef) (a' := ?_) #[true, true, true, true, true, false, false, false, false, false, false, false, false, false] rfl rfl (any_of HT_.out (by kernel_rfl)) (fun _ _ _ h => h) (Or.inr ⟨by rfl, rfl⟩) ?_ ?_
  rotate_left
  ·simp only [Act.put, zA, zB, zC, i64_w, i32_w]
   rfl
  refine pure_ (i := 5) (N := some 10) (v := ?_) (a' := ?_) #[true, true, true, true, true, true, false, false, false, false, false, false, false, false] rfl rfl (any_of HT_.out (by kernel_rfl)) (fun _ _ _ h => h) (Or.inl ⟨by rfl, ?_⟩) ?_ ?_
  rotate_left
  ·intro w'
   go_simp
   with_reducible rfl
  rotate_left
  ·simp only [Act.put, zA, zB, zC, i64_w, i32_w]
   rfl
  refine pure_ (i := 6) (N := some 11) (v := ?_) (a' := ?_) #[true, true, true, true, true, true, true, false, false, false, false, false, false, false] rfl rfl (any_of HT_.out (by kernel_rfl)) (fun _ _ _ h => h) (Or.inl ⟨by rfl, ?_⟩) ?_ ?_
  rotate_left
  ·intro w'
   go_simp
   with_reducible rfl
  rotate_left
  ·simp only [Act.put, zA, zB, zC, i64_w, i32_w]
   rfl
  refine pure_ (i := 7) (N := some 12) (v := undef) (a' := ?_) #[true, true, true, true, true, true, true, true, false, false, false, false, false, false] rfl rfl (any_of HT_.out (by kernel_rfl)) (fun _ _ _ h => h) (Or.inr ⟨by rfl, rfl⟩) ?_ ?_
  rotate_left
  ·simp only [Act.put, zA, zB, zC, i64_w, i32_w]
   rfl
  refine pure_ (i := 8) (N := some 13) (v := undef) (a' := ?_) #[true, true, true, true, true, true, true, true, true, false, false, false, false, false] rfl rfl (any_of HT_.out (by kernel_rfl)) (fun _ _ _ h => h) (Or.inr ⟨by rfl, rfl⟩) ?_ ?_
  rotate_left
  ·simp only [Act.put, zA, zB, zC, i64_w, i32_w]
   rfl
  refine pure_ (i := 9) (N := some 14) (v := undef) (a' := ?_) #[true, true, true, true, true, true, true, true, true, true, false, false, false, false] rfl rfl (any_of HT_.out (by kernel_rfl)) (fun _ _ _ h => h) (Or.inr ⟨by rfl, rfl⟩) ?_ ?_
  rotate_left
  ·simp only [Act.put, zA, zB, zC, i64_w, i32_w]
   rfl
  refine pure_ (i := 10) (N := some 15) (v := undef) (a' := ?_) #[true, true, true, true, true, true, true, true, true, true, true, false, false, false] rfl rfl (any_of HT_.out (by kernel_rfl)) (fun _ _ _ h => h) (Or.inr ⟨by rfl, rfl⟩) ?_ ?_
  rotate_left
  ·simp only [Act.put, zA, zB, zC, i64_w, i32_w]
   rfl
  refine pure_ (i := 11) (N := some 16) (v := undef) (a' := ?_) #[true, true, true, true, true, true, true, true, true, true, true, true, false, false] rfl rfl (any_of HT_.out (by kernel_rfl)) (fun _ _ _ h => h) (Or.inr ⟨by rfl, rfl⟩) ?_ ?_
  rotate_left
  ·simp only [Act.put, zA, zB, zC, i64_w, i32_w]
   rfl
  refine pure_ (i := 12) (N := some 17) (v := ?_) (a' := ?_) #[true, true, true, true, true, true, true, true, true, true, true, true, true, false] rfl rfl (any_of HT_.out (by kernel_rfl)) (fun _ _ _ h => h) (Or.inl ⟨by rfl, ?_⟩) ?_ ?_
  rotate_left
  ·intro w'
   go_simp
   with_reducible rfl
  rotate_left
  ·simp only [Act.put, zA, zB, zC, i64_w, i32_w]
   rfl
  refine pure_ (i := 13) (N := some 4) (v := ?_) (a' := ?_) #[true, true, true, true, true, true, true, true, true, true, true, true, true, true] rfl rfl (any_of HT_.out (by kernel_rfl)) (fun _ _ _ h => h) (Or.inl ⟨by rfl, ?_⟩) ?_ ?_
  rotate_left
  ·intro w'
   go_simp
   with_reducible rfl
  rotate_left
  ·simp only [Act.put, zA, zB, zC, i64_w, i32_w]
   rfl
  refine done_ (done_of HT_.out (by kernel_rfl)) ?_
  try go_wp2
  go_ret
  exact ⟨by first | rfl | (simp [errW_none, errW_some] <;> rfl) | (simp [*, errW_none, errW_some] <;> rfl), by repeat (first | (with_reducible first | exact HB.out | apply yO | apply yN | apply yP | refine yQ ?_ GE375.out | refine yQ ?_ GE376.out) | exact HB.out)⟩

end Go.Proofs.Ytgopcliohchkmaa.Q
