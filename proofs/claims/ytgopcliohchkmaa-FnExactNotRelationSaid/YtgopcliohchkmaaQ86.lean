-- written by a program of this session (a turned copy of the kit's print) out of the translation
-- squeezed
-- compact
import Derived.Test.YtgopcliohchkmaaQ0
import Derived.Test.YtgopcliohchkmaaQ41
import Derived.Test.YtgopcliohchkmaaQ80
namespace Go.Proofs.Ytgopcliohchkmaa.Q
open Go.RowKit Go.Proofs.YtgopcliohchkmaaW.PrintWords Go.Proofs.YtgopcliohchkmaaW.PrintLast Go.Proofs.YtgopcliohchkmaaW.PrintMore
attribute [local go_sem] max2_int min2_int max_two min_two max_three min_three max_four min_four   -- for this text's walks alone
set_option linter.unusedVariables false
set_option linter.unusedSimpArgs false

/-! ### impl_NotRelation: function 48 -/
def impl_NotRelation.l0 : Nat → List Bool → Int → Int → Int → Int → List (List Int) → List Bool → Option (Int × Int × (List (List Int)) × List Bool × Bool)
 | 0, _, _, _, _, _, _, _ => none
 | k + 1, x19, x20, x21, x1039000, x1039001, x1039002, x1039003 => if x21 < x20 then (if 0 ≤ x21 then (if x21 < (x19.length : Int) then (if x1039003.length < 140737488355328 then (impl_NotRelation.l0 k x19 x20 (wrap64 (x21 + 1)) x1039000 x1039001 x1039002 (x1039003 ++ [!(rdOf false x19 x21)])) else (none)) else (none)) else (none)) else ((impl_Relation_reduced.f k x1039000 x1039001 x1039002 x1039003).bind fun bt1043 => (some (bt1043.1, bt1043.2.1, bt1043.2.2.1, bt1043.2.2.2, true)))
def impl_NotRelation.f (k : Nat) (a0_0 : Int) (a0_1 : Int) (l0_2 : List (List Int)) (l0_3 : List Bool) : Option (Int × Int × (List (List Int)) × List Bool × Bool) := (impl_IsRelation.f k a0_0 a0_1 l0_2 l0_3).bind fun t1037 => (if t1037 = true then (impl_NotRelation.l0 k l0_3 (l0_3.length : Int) 0 a0_0 a0_1 l0_2 ([] : List Bool)) else (some (0, 0, ([] : List (List Int)), ([] : List Bool), false)))
theorem impl_NotRelation.mono_l : ∀ k, (∀ y0 y1 y2 y3 y4 y5 y6, LeO (impl_NotRelation.l0 k y0 y1 y2 y3 y4 y5 y6) (impl_NotRelation.l0 (k + 1) y0 y1 y2 y3 y4 y5 y6))
 | 0 => fun _ _ _ _ _ _ _ r h => by simp [impl_NotRelation.l0] at h
 | k + 1 => by
  have ih0 := impl_NotRelation.mono_l k
  ·intro y0 y1 y2 y3 y4 y5 y6
   unfold impl_NotRelation.l0
   repeat' first
   | (with_reducible exact ih0 _ _ _ _ _ _ _)
   | (with_reducible exact impl_IsRelation.mono _ _ _ _ _)
   | (with_reducible exact impl_Relation_reduced.mono _ _ _ _ _)
   | (with_reducible exact LeO.refl _)
   | (with_reducible exact LeO.none _)
   | (with_reducible refine LeO.ite ?_ ?_)
   | (with_reducible refine LeO.bind ?_ (fun _ => ?_))
   | exact ih0 _ _ _ _ _ _ _
   | exact impl_IsRelation.mono _ _ _ _ _
   | exact impl_Relation_reduced.mono _ _ _ _ _
   | exact LeO.none _
   | refine LeO.ite ?_ ?_
   | refine LeO.bind ?_ (fun _ => ?_)
theorem impl_NotRelation.mono : ∀ a0 a1 a2 a3 k, LeO (impl_NotRelation.f k a0 a1 a2 a3) (impl_NotRelation.f (k + 1) a0 a1 a2 a3) := by
 intro a0 a1 a2 a3 k
 have ih0 := impl_NotRelation.mono_l k
 unfold impl_NotRelation.f
 repeat' first
   | (with_reducible exact ih0 _ _ _ _ _ _ _)
   | (with_reducible exact impl_IsRelation.mono _ _ _ _ _)
   | (with_reducible exact impl_Relation_reduced.mono _ _ _ _ _)
   | (with_reducible exact LeO.refl _)
   | (with_reducible exact LeO.none _)
   | (with_reducible refine LeO.ite ?_ ?_)
   | (with_reducible refine LeO.bind ?_ (fun _ => ?_))
   | exact ih0 _ _ _ _ _ _ _
   | exact impl_IsRelation.mono _ _ _ _ _
   | exact impl_Relation_reduced.mono _ _ _ _ _
   | exact LeO.none _
   | refine LeO.ite ?_ ?_
   | refine LeO.bind ?_ (fun _ => ?_)
set_option maxHeartbeats 8000000 in
set_option maxRecDepth 100000 in
theorem impl_NotRelation.calls (k : Nat) (a0_0 : Int) (a0_1 : Int) (A0_2 : Option Addr) (c0_2 : Nat) (l0_2 : List (List Int)) (A0_3 : Option Addr) (c0_3 : Nat) (l0_3 : List Bool) (r1 : Int) (r2 : Int) (r3 : List (List Int)) (r4 : List Bool) (r5 : Bool) (w : World) (hr0_2 : Kd.C (Kd.slice 3 (Kd.int .i64)) w A0_2 l0_2.length l0_2) (hc0_2 : l0_2.length ≤ c0_2) (hr0_3 : Kd.C Kd.bool w A0_3 l0_3.length l0_3) (hc0_3 : l0_3.length ≤ c0_3) (h : impl_NotRelation.f k a0_0 a0_1 l0_2 l0_3 = some (r1, r2, r3, r4, r5)) :
  Calls Try.prog 48 #[.agg #[.int .i64 a0_0, .int .i64 a0_1, .slice A0_2 l0_2.length c0_2, .slice A0_3 l0_3.length c0_3]] w fun e w' => ∃ v2_ v3_ : Value, e = .returned (.tuple #[.agg #[.int .i64 r1, .int .i64 r2, v2_, v3_], .bool r5]) ∧ Kd.S (Kd.slice 3 (Kd.int .i64)) 38 w' w.heap.size (fun _ => True) v2_ r3 ∧ Kd.R Kd.bool 4 w' w.heap.size (fun _ => True) v3_ r4 ∧ Below w.heap.size w w' := by
 have hu25 := Try.underlying25
 have HR0_2 := yA hr0_2
 have HC0_2 := yA hc0_2
 clear hr0_2 hc0_2
 have HR0_3 := yA hr0_3
 have HC0_3 := yA hc0_3
 clear hr0_3 hc0_3
 have HB := yA (zV w.heap.size w)
 have H : ((impl_IsRelation.f k a0_0 a0_1 l0_2 l0_3).bind fun t1037 => (if t1037 = true then (impl_NotRelation.l0 k l0_3 (l0_3.length : Int) 0 a0_0 a0_1 l0_2 ([] : List Bool)) else (some (0, 0, ([] : List (List Int)), ([] : List Bool), false)))) = some (r1, r2, r3, r4, r5) := h
 clear h
 replace H := Option.bind_eq_some_iff.mp H
 obtain ⟨t1037, A20, H⟩ := H
 replace H : (if t1037 = true then (impl_NotRelation.l0 k l0_3 (l0_3.length : Int) 0 a0_0 a0_1 l0_2 ([] : List Bool)) else (some (0, 0, ([] : List (List Int)), ([] : List Bool), false))) = some (r1, r2, r3, r4, r5) := H
 have A2 := yA A20
 clear A20
 by_cases c3 : t1037 = true
 ·subst c3
  have H1 : (impl_NotRelation.l0 k l0_3 (l0_3.length : Int) 0 a0_0 a0_1 l0_2 ([] : List Bool)) = some (r1, r2, r3, r4, r5) := by rw [if_pos rfl] at H; exact H
  clear H
  have H := H1
  clear H1
  have H' := yA H
  clear H
  go_enter Try.func48, Try.ntmps48
  go_wp2_with (first | ((with_reducible refine gate_dst (N := 1) rfl ?_); refine box_event ?hg (N := 1) ?hd (cs := #[.int .i64 a0_0, .int .i64 a0_1, .slice A0_2 l0_2.length c0_2, .slice A0_3 l0_3.length c0_3]) (t := 25) ?hr ?_; (case hd => rfl); (case hg => rfl); (case hr => first | (go_simp; done) | (go_simp; rfl)); intro gb1035 hg w4 hbox hb; have n0_ := yA (zD (mB HB.out) hb); have n1_ := yA (hbox); have n2_ := yA ((by rw [hg]; exact (yX (mB HB.out)) : w.heap.size ≤ gb1035)); have n3_ := yA ((by rw [hg]; exact (yX (mB HB.out)) : w.heap.size ≤ gb1035)); clear HB; have HB := n0_; have BK1035 := n1_; have GW1035 := n2_; have GE1035 := n3_; clear n0_ n1_ n2_ n3_; clear hb hbox hg) | ((with_reducible refine gate_dst (N := 2) rfl ?_); refine box_event ?hg (N := 2) ?hd (cs := #[.int .i64 0, .int .i64 0, .slice none 0 0, .slice none 0 0]) (t := 25) ?hr ?_; (case hd => rfl); (case hg => rfl); (case hr => first | (go_simp; done) | (go_simp; rfl)); intro gb1036 hg w5 hbox hb; have n0_ := yA (yU (mK BK1035.out) hb); have n1_ := yA (zD (by with_reducible repeat first | exact HB.out | apply yO | apply yN | apply yP | refine yQ ?_ GE1035.out) hb); have n2_ := yA (hbox); have n3_ := yA ((by rw [hg]; exact (yX (by with_reducible repeat first | exact HB.out | apply yO | apply yN | apply yP | refine yQ ?_ GE1035.out)) : w.heap.size ≤ gb1036)); have n4_ := yA ((by rw [hg]; exact (yX (by with_reducible repeat first | exact HB.out | apply yO | apply yN | apply yP | refine yQ ?_ GE1035.out)) : w.heap.size ≤ gb1036)); have n5_ := yA ((by rw [hg]; exact Nat.ne_of_lt (zX (mK BK1035.out)) : gb1035 ≠ gb1036)); have n6_ := yA ((by rw [hg]; exact Nat.ne_of_gt (zX (mK BK1035.out)) : gb1036 ≠ gb1035)); clear BK1035; clear HB; have BK1035 := n0_; have HB := n1_; have BK1036 := n2_; have GW1036 := n3_; have GE1036 := n4_; have NB1035_1036 := n5_; have NB1036_1035 := n6_; clear n0_ n1_ n2_ n3_ n4_ n5_ n6_; clear hb hbox hg; have hnb6 := NB1035_1036.out; have hnc6 := NB1036_1035.out; have hcz7_0 : w5.cell? ⟨gb1035, 0, none⟩ = some (.int .i64 a0_0) := (yV BK1035.out 0).trans rfl; have hcz7_1 : w5.cell? ⟨gb1035, 1, none⟩ = some (.int .i64 a0_1) := (yV BK1035.out 1).trans rfl; have hcz7_2 : w5.cell? ⟨gb1035, 2, none⟩ = some (.slice A0_2 l0_2.length c0_2) := (yV BK1035.out 2).trans rfl; have hcz7_3 : w5.cell? ⟨gb1035, 3, none⟩ = some (.slice A0_3 l0_3.length c0_3) := (yV BK1035.out 3).trans rfl; have hfz7_0 := yW BK1035.out 0; have hfz7_1 := yW BK1035.out 1; have hfz7_2 := yW BK1035.out 2; have hfz7_3 := yW BK1035.out 3) | ((with_reducible refine zS (f := 65) rfl ?_); refine goesL_ (some 8) rfl rfl Try.func65 (by kernel_rfl) rfl #[.agg #[.int .i64 a0_0, .int .i64 a0_1, .slice A0_2 l0_2.length c0_2, .slice A0_3 l0_3.length c0_3]] rfl (by (try simp only [zI, zJ, zK]); first | done | rfl | (simp only [zL, zM]; rfl)) ?_; (with_reducible refine (impl_IsRelation.calls k a0_0 a0_1 _ _ l0_2 _ _ l0_3 true _ ?side1 ?side2 ?side3 ?side4 A2.out).mono ?_); (case side1 => exact mC (yM HR0_2.out HB.out)); (case side2 => exact HC0_2.out); (case side3 => exact mC (yM HR0_3.out HB.out)); (case side4 => exact HC0_3.out); rintro e w8 ⟨rfl, hb⟩; refine ⟨_, rfl, ?_⟩; have n0_ := yA (yU (mK BK1035.out) hb); have n1_ := yA (yU (mK BK1036.out) hb); have n2_ := yA (zD (by with_reducible repeat first | exact HB.out | apply yO | apply yN | apply yP | refine yQ ?_ GE1035.out | refine yQ ?_ GE1036.out) hb); clear BK1035; clear BK1036; clear HB; have BK1035 := n0_; have BK1036 := n1_; have HB := n2_; clear n0_ n1_ n2_; (try clear hb); (try clear hb2); (try clear hk); (try clear hi); have hcz9_0 : w8.cell? ⟨gb1035, 0, none⟩ = some (.int .i64 a0_0) := (yV BK1035.out 0).trans rfl; have hcz9_1 : w8.cell? ⟨gb1035, 1, none⟩ = some (.int .i64 a0_1) := (yV BK1035.out 1).trans rfl; have hcz9_2 : w8.cell? ⟨gb1035, 2, none⟩ = some (.slice A0_2 l0_2.length c0_2) := (yV BK1035.out 2).trans rfl; have hcz9_3 : w8.cell? ⟨gb1035, 3, none⟩ = some (.slice A0_3 l0_3.length c0_3) := (yV BK1035.out 3).trans rfl; have hfz9_0 := yW BK1035.out 0; have hfz9_1 := yW BK1035.out 1; have hfz9_2 := yW BK1035.out 2; have hfz9_3 := yW BK1035.out 3) | ((with_reducible refine gate_dst (N := 4) rfl ?_); refine box_event ?hg (N := 4) ?hd (cs := #[.int .i64 0, .int .i64 0, .slice none 0 0, .slice none 0 0]) (t := 25) ?hr ?_; (case hd => rfl); (case hg => rfl); (case hr => first | (go_simp; done) | (go_simp; rfl)); intro gb1038 hg w10 hbox hb; have n0_ := yA (yU (mK BK1035.out) hb); have n1_ := yA (yU (mK BK1036.out) hb); have n2_ := yA (zD (by with_reducible repeat first | exact HB.out | apply yO | apply yN | apply yP | refine yQ ?_ GE1035.out | refine yQ ?_ GE1036.out) hb); have n3_ := yA (hbox); have n4_ := yA ((by rw [hg]; exact (yX (by with_reducible repeat first | exact HB.out | apply yO | apply yN | apply yP | refine yQ ?_ GE1035.out | refine yQ ?_ GE1036.out)) : w.heap.size ≤ gb1038)); have n5_ := yA ((by rw [hg]; exact (yX (by with_reducible repeat first | exact HB.out | apply yO | apply yN | apply yP | refine yQ ?_ GE1035.out | refine yQ ?_ GE1036.out)) : w.heap.size ≤ gb1038)); have n6_ := yA ((by rw [hg]; exact Nat.ne_of_lt (zX (mK BK1035.out)) : gb1035 ≠ gb1038)); have n7_ := yA ((by rw [hg]; exact Nat.ne_of_gt (zX (mK BK1035.out)) : gb1038 ≠ gb1035)); have n8_ := yA ((by rw [hg]; exact Nat.ne_of_lt (zX (mK BK1036.out)) : gb1036 ≠ gb1038)); have n9_ := yA ((by rw [hg]; exact Nat.ne_of_gt (zX (mK BK1036.out)) : gb1038 ≠ gb1036)); clear BK1035; clear BK1036; clear HB; have BK1035 := n0_; have BK1036 := n1_; have HB := n2_; have BK1038 := n3_; have GW1038 := n4_; have GE1038 := n5_; have NB1035_1038 := n6_; have NB1038_1035 := n7_; have NB1036_1038 := n8_; have NB1038_1036 := n9_; clear n0_ n1_ n2_ n3_ n4_ n5_ n6_ n7_ n8_ n9_; clear hb hbox hg; have hnb11 := NB1038_1035.out; have hnc11 := NB1035_1038.out; have hnb12 := NB1038_1036.out; have hnc12 := NB1036_1038.out; have hcz13_0 : w10.cell? ⟨gb1038, 0, none⟩ = some (.int .i64 0) := (yV BK1038.out 0).trans rfl; have hcz13_1 : w10.cell? ⟨gb1038, 1, none⟩ = some (.int .i64 0) := (yV BK1038.out 1).trans rfl; have hcz13_2 : w10.cell? ⟨gb1038, 2, none⟩ = some (.slice none 0 0) := (yV BK1038.out 2).trans rfl; have hcz13_3 : w10.cell? ⟨gb1038, 3, none⟩ = some (.slice none 0 0) := (yV BK1038.out 3).trans rfl; have hfz13_0 := yW BK1038.out 0; have hfz13_1 := yW BK1038.out 1; have hfz13_2 := yW BK1038.out 2; have hfz13_3 := yW BK1038.out 3; have hcz14_0 : w10.cell? ⟨gb1035, 0, none⟩ = some (.int .i64 a0_0) := (yV BK1035.out 0).trans rfl; have hcz14_1 : w10.cell? ⟨gb1035, 1, none⟩ = some (.int .i64 a0_1) := (yV BK1035.out 1).trans rfl; have hcz14_2 : w10.cell? ⟨gb1035, 2, none⟩ = some (.slice A0_2 l0_2.length c0_2) := (yV BK1035.out 2).trans rfl; have hcz14_3 : w10.cell? ⟨gb1035, 3, none⟩ = some (.slice A0_3 l0_3.length c0_3) := (yV BK1035.out 3).trans rfl; have hfz14_0 := yW BK1035.out 0; have hfz14_1 := yW BK1035.out 1; have hfz14_2 := yW BK1035.out 2; have hfz14_3 := yW BK1035.out 3))
  go_loopg [21] k (fun kq v21 w' => ∃ (x21_1 : Int) (x1039003_1 : List Bool) (u1039003 : Value), v21 = .int .i64 x21_1 ∧ Aside0 (impl_NotRelation.l0 kq l0_3 (l0_3.length : Int) x21_1 a0_0 a0_1 l0_2 x1039003_1 = some (r1, r2, r3, r4, r5)) ∧ Aside0 (kq ≤ k) ∧ Aside0 (Kd.R Kd.bool 4 w' w.heap.size (fun _ => True) u1039003 x1039003_1) ∧ Aside0 (w'.heap[gb1035]? = some (.cells #[.int .i64 a0_0, .int .i64 a0_1, (.slice A0_2 l0_2.length c0_2), (.slice A0_3 l0_3.length c0_3)] 25 (0, 0))) ∧ Aside0 (w'.heap[gb1036]? = some (.cells #[.int .i64 0, .int .i64 0, (.slice none 0 0), (.slice none 0 0)] 25 (0, 0))) ∧ Aside0 (w'.heap[gb1038]? = some (.cells #[.int .i64 a0_0, .int .i64 a0_1, (.slice A0_2 l0_2.length c0_2), u1039003] 25 (0, 0))) ∧ Aside0 (Below w.heap.size w w'))
  case atStart => exact ⟨(0), (([] : List Bool)), (.slice none 0 0), (by first | rfl | (simp; done) | (simp [*]; done)), H', ⟨zT _⟩, ⟨by first | exact Kd.R_nil _ _ _ _ _ | exact Kd.N_nil _ _ _ _ _ | exact Kd.V_nil _ _ _ _ _ | exact Kd.Q_nil _ _ _ _ _ | exact Kd.S_nil _ _ _ _ _⟩, ⟨by (with_reducible repeat (first | refine yS ?_ _ | refine yT ?_ | refine yR ?_ _)); refine blk_far ?_ NB1035_1038.out _; (with_reducible repeat (first | refine yS ?_ _ | refine yT ?_ | refine yR ?_ _)); refine blk_far ?_ NB1035_1038.out _; (with_reducible repeat (first | refine yS ?_ _ | refine yT ?_ | refine yR ?_ _)); refine blk_far ?_ NB1035_1038.out _; (with_reducible repeat (first | refine yS ?_ _ | refine yT ?_ | refine yR ?_ _)); refine blk_far ?_ NB1035_1038.out _; (with_reducible repeat (first | refine yS ?_ _ | refine yT ?_ | refine yR ?_ _)); exact BK1035.out⟩, ⟨by (with_reducible repeat (first | refine yS ?_ _ | refine yT ?_ | refine yR ?_ _)); refine blk_far ?_ NB1036_1038.out _; (with_reducible repeat (first | refine yS ?_ _ | refine yT ?_ | refine yR ?_ _)); refine blk_far ?_ NB1036_1038.out _; (with_reducible repeat (first | refine yS ?_ _ | refine yT ?_ | refine yR ?_ _)); refine blk_far ?_ NB1036_1038.out _; (with_reducible repeat (first | refine yS ?_ _ | refine yT ?_ | refine yR ?_ _)); refine blk_far ?_ NB1036_1038.out _; (with_reducible repeat (first | refine yS ?_ _ | refine yT ?_ | refine yR ?_ _)); exact BK1036.out⟩, ⟨by (with_reducible repeat (first | refine yS ?_ _ | refine yT ?_ | refine yR ?_ _)); refine blk_put (cs := #[.int .i64 a0_0, .int .i64 a0_1, .slice A0_2 l0_2.length c0_2, .slice none 0 0]) ?_ 3 _ rfl; (with_reducible repeat (first | refine yS ?_ _ | refine yT ?_ | refine yR ?_ _)); refine blk_put (cs := #[.int .i64 a0_0, .int .i64 a0_1, .slice none 0 0, .slice none 0 0]) ?_ 2 _ rfl; (with_reducible repeat (first | refine yS ?_ _ | refine yT ?_ | refine yR ?_ _)); refine blk_put (cs := #[.int .i64 a0_0, .int .i64 0, .slice none 0 0, .slice none 0 0]) ?_ 1 _ rfl; (with_reducible repeat (first | refine yS ?_ _ | refine yT ?_ | refine yR ?_ _)); refine blk_put (cs := #[.int .i64 0, .int .i64 0, .slice none 0 0, .slice none 0 0]) ?_ 0 _ rfl; (with_reducible repeat (first | refine yS ?_ _ | refine yT ?_ | refine yR ?_ _)); exact BK1038.out⟩, ⟨by repeat (first | (with_reducible first | exact HB.out | apply yO | apply yN | apply yP | refine yQ ?_ GE1035.out | refine yQ ?_ GE1036.out | refine yQ ?_ GE1038.out) | exact HB.out)⟩⟩
  case round =>
   clear H'
   try clear c1
   try clear p2
   try clear c3
   try clear c4
   try clear c6
   try clear c11
   try clear c12
   try clear hcz13_0
   try clear hcz13_1
   try clear hcz13_2
   try clear hcz13_3
   try clear hcz14_0
   try clear hcz14_1
   try clear hcz14_2
   try clear hcz14_3
   try clear hcz7_0
   try clear hcz7_1
   try clear hcz7_2
   try clear hcz7_3
   try clear hcz9_0
   try clear hcz9_1
   try clear hcz9_2
   try clear hcz9_3
   try clear hfz13_0
   try clear hfz13_1
   try clear hfz13_2
   try clear hfz13_3
   try clear hfz14_0
   try clear hfz14_1
   try clear hfz14_2
   try clear hfz14_3
   try clear hfz7_0
   try clear hfz7_1
   try clear hfz7_2
   try clear hfz7_3
   try clear hfz9_0
   try clear hfz9_1
   try clear hfz9_2
   try clear hfz9_3
   obtain ⟨x21_1, x1039003_1, u1039003, rfl, HA, HK1, HO_1039003, BK1035, BK1036, BK1038, HB⟩ := hrel
   cases gk with
   | zero => exact absurd HA.out (by simp [impl_NotRelation.l0])
   | succ k1 =>
    have H := HA.out
    clear HA
    simp only [impl_NotRelation.l0] at H
    by_cases c15 : x21_1 < (l0_3.length : Int)
    ·rw [if_pos c15] at H
     have c15b0 : decide (x21_1 < (l0_3.length : Int)) = true := zH c15
     clear c15
     by_cases c16 : 0 ≤ x21_1
     ·rw [if_pos c16] at H
      have c16b0 : decide (0 ≤ x21_1) = true := zH c16
      clear c16
      by_cases c17 : x21_1 < (l0_3.length : Int)
      ·rw [if_pos c17] at H
       have c17b0 : decide (x21_1 < (l0_3.length : Int)) = true := zH c17
       clear c17
       by_cases c18 : x1039003_1.length < 140737488355328
       ·rw [if_pos c18] at H
        have LMc18 := yA c18
        clear c18
        obtain ⟨y1040, hy1040⟩ : ∃ y_ : List Bool, y_ = (x1039003_1 ++ [!(rdOf false l0_3 x21_1)]) := ⟨_, rfl⟩
        replace H : (impl_NotRelation.l0 k1 l0_3 (l0_3.length : Int) (wrap64 (x21_1 + 1)) a0_0 a0_1 l0_2 y1040) = some (r1, r2, r3, r4, r5) := by first | (rw [hy1040]; with_reducible exact H) | (have H2_ := (Option.bind_some _ _).symm.trans H; rw [hy1040]; with_reducible exact H2_) | (have H2_ := (Option.bind_some _ _).symm.trans H; with_reducible exact H2_) | with_reducible exact H | (rw [hy1040]; exact H) | exact H
        have Ny1040 := yA hy1040
        clear hy1040
        have H' := yA H
        clear H
        have p1039 : 0 ≤ (x21_1 : Int) := zG (by first | (with_reducible assumption) | assumption)
        have q1039 : x21_1 < (l0_3.length : Int) := zG (by first | (with_reducible assumption) | assumption)
        obtain ⟨ad1039, e1039, hx1039_0⟩ := Kd.at_bool HR0_3.out x21_1 p1039 q1039
        cases e1039
        try replace hx1039_0 := (HB.out.cell (zE w _ hx1039_0)).trans hx1039_0
        replace p1039 := eq_true p1039
        replace q1039 := eq_true q1039
        have hnb19 := NB1038_1035.out
        have hnc19 := NB1035_1038.out
        have hnb20 := NB1038_1036.out
        have hnc20 := NB1036_1038.out
        have hcz21_0 : wr.cell? ⟨gb1038, 0, none⟩ = some (.int .i64 a0_0) := (yV BK1038.out 0).trans rfl
        have hcz21_1 : wr.cell? ⟨gb1038, 1, none⟩ = some (.int .i64 a0_1) := (yV BK1038.out 1).trans rfl
        have hcz21_2 : wr.cell? ⟨gb1038, 2, none⟩ = some (.slice A0_2 l0_2.length c0_2) := (yV BK1038.out 2).trans rfl
        have hcz21_3 : wr.cell? ⟨gb1038, 3, none⟩ = some (u1039003) := (yV BK1038.out 3).trans rfl
        have hfz21_0 := yW BK1038.out 0
        have hfz21_1 := yW BK1038.out 1
        have hfz21_2 := yW BK1038.out 2
        have hfz21_3 := yW BK1038.out 3
        go_wp2_with (first | ((with_reducible refine gate_builtin (b := .append) (xs := #[.tmp 26, .tmp 29]) rfl ?_); at_builtin; refine Kd.R_append Kd.bool (w0 := w) w.heap.size rfl (.tmp 26) (.tmp 29) 23 4 (.bool false) 1 rfl Try.underlying23 info4 rfl (by decide) (by omega) u1039003 x1039003_1 (!(rdOf false l0_3 x21_1)) [.bool (!(rdOf false l0_3 x21_1))] (fun _ => True) (fun _ => False) rfl rfl ?aP (fun _ hk => hk.elim) ?aF ?aO ?aB ?aS ?aL ?_; (case aP => exact rfl); (case aB => exact (by with_reducible repeat first | exact HB.out | apply yO | apply yN | apply yP | refine yQ ?_ GE1035.out | refine yQ ?_ GE1036.out | refine yQ ?_ GE1038.out)); (case aF => exact (fun _ _ => trivial)); (case aO => exact (mR HO_1039003.out)); (case aS => exact (yX (by with_reducible repeat first | exact HB.out | apply yO | apply yN | apply yP | refine yQ ?_ GE1035.out | refine yQ ?_ GE1036.out | refine yQ ?_ GE1038.out))); (case aL => have := LMc18.out; omega); intro v1041 w22 ho hb hg hat; rw [← Ny1040.out] at ho; have n0_ := yA (blk_grown (g := gb1035) (o := .cells #[.int .i64 a0_0, .int .i64 a0_1, .slice A0_2 l0_2.length c0_2, .slice (some ad1039) l0_3.length c0_3] 25 (0, 0)) (mK BK1035.out) hg (zW HO_1039003.out BK1035.out (by decide))); have n1_ := yA (blk_grown (g := gb1036) (o := .cells #[.int .i64 0, .int .i64 0, .slice none 0 0, .slice none 0 0] 25 (0, 0)) (mK BK1036.out) hg (zW HO_1039003.out BK1036.out (by decide))); have n2_ := yA (blk_grown (g := gb1038) (o := .cells #[.int .i64 a0_0, .int .i64 a0_1, .slice A0_2 l0_2.length c0_2, u1039003] 25 (0, 0)) (mK BK1038.out) hg (zW HO_1039003.out BK1038.out (by decide))); have n3_ := yA (hb); have n4_ := yA (ho); clear BK1035; clear BK1036; clear BK1038; clear HB; clear HO_1039003; have BK1035 := n0_; have BK1036 := n1_; have BK1038 := n2_; have HB := n3_; have HO1042 := n4_; clear n0_ n1_ n2_ n3_ n4_; clear ho hb hg hat; obtain ⟨Ao23, co23, eo23⟩ := Kd.R_slice HO1042.out; subst eo23; have hcz24_0 : w22.cell? ⟨gb1038, 0, none⟩ = some (.int .i64 a0_0) := (yV BK1038.out 0).trans rfl; have hcz24_1 : w22.cell? ⟨gb1038, 1, none⟩ = some (.int .i64 a0_1) := (yV BK1038.out 1).trans rfl; have hcz24_2 : w22.cell? ⟨gb1038, 2, none⟩ = some (.slice A0_2 l0_2.length c0_2) := (yV BK1038.out 2).trans rfl; have hcz24_3 : w22.cell? ⟨gb1038, 3, none⟩ = some (u1039003) := (yV BK1038.out 3).trans rfl; have hfz24_0 := yW BK1038.out 0; have hfz24_1 := yW BK1038.out 1; have hfz24_2 := yW BK1038.out 2; have hfz24_3 := yW BK1038.out 3))
        go_roundg k1
        case measure => have := HK1.out; omega
        case rel => exact ⟨(wrap64 (x21_1 + 1)), (y1040), (.slice Ao23 y1040.length co23), (by first | rfl | (simp; done) | (simp [*]; done)), H', ⟨by have := HK1.out; omega⟩, ⟨by (with_reducible repeat (first | apply yB | apply yC | apply yD)); exact zP (zQ (p := ⟨gb1038, 3, none⟩) (zR HO1042.out BK1038.out (by decide)) (fun _ hk => hk.2) (.slice Ao23 y1040.length co23)) (fun _ hk => trivial)⟩, ⟨by (with_reducible repeat (first | refine yS ?_ _ | refine yT ?_ | refine yR ?_ _)); refine blk_far ?_ NB1035_1038.out _; (with_reducible repeat (first | refine yS ?_ _ | refine yT ?_ | refine yR ?_ _)); exact BK1035.out⟩, ⟨by (with_reducible repeat (first | refine yS ?_ _ | refine yT ?_ | refine yR ?_ _)); refine blk_far ?_ NB1036_1038.out _; (with_reducible repeat (first | refine yS ?_ _ | refine yT ?_ | refine yR ?_ _)); exact BK1036.out⟩, ⟨by (with_reducible repeat (first | refine yS ?_ _ | refine yT ?_ | refine yR ?_ _)); refine blk_put (cs := #[.int .i64 a0_0, .int .i64 a0_1, .slice A0_2 l0_2.length c0_2, u1039003]) ?_ 3 _ rfl; (with_reducible repeat (first | refine yS ?_ _ | refine yT ?_ | refine yR ?_ _)); exact BK1038.out⟩, ⟨by repeat (first | (with_reducible first | exact HB.out | apply yO | apply yN | apply yP | refine yQ ?_ GE1035.out | refine yQ ?_ GE1036.out | refine yQ ?_ GE1038.out) | exact HB.out)⟩⟩
       ·rw [if_neg c18] at H
        exact absurd H (by simp)
      ·rw [if_neg c17] at H
       exact absurd H (by simp)
     ·rw [if_neg c16] at H
      exact absurd H (by simp)
    ·rw [if_neg c15] at H
     have c15b0 : decide (x21_1 < (l0_3.length : Int)) = false := decide_eq_false c15
     clear c15
     replace H := Option.bind_eq_some_iff.mp H
     obtain ⟨⟨t1043, t1044, t1045, t1048⟩, A250, H⟩ := H
     replace H : (some (t1043, t1044, t1045, t1048, true)) = some (r1, r2, r3, r4, r5) := H
     have A25 := yA A250
     clear A250
     simp only [Option.some.injEq, Prod.mk.injEq] at H
     obtain ⟨rfl, rfl, rfl, rfl, rfl⟩ := H
     have hnb26 := NB1038_1035.out
     have hnc26 := NB1035_1038.out
     have hnb27 := NB1038_1036.out
     have hnc27 := NB1036_1038.out
     have hcz28_0 : wr.cell? ⟨gb1038, 0, none⟩ = some (.int .i64 a0_0) := (yV BK1038.out 0).trans rfl
     have hcz28_1 : wr.cell? ⟨gb1038, 1, none⟩ = some (.int .i64 a0_1) := (yV BK1038.out 1).trans rfl
     have hcz28_2 : wr.cell? ⟨gb1038, 2, none⟩ = some (.slice A0_2 l0_2.length c0_2) := (yV BK1038.out 2).trans rfl
     have hcz28_3 : wr.cell? ⟨gb1038, 3, none⟩ = some (u1039003) := (yV BK1038.out 3).trans rfl
     have hfz28_0 := yW BK1038.out 0
     have hfz28_1 := yW BK1038.out 1
     have hfz28_2 := yW BK1038.out 2
     have hfz28_3 := yW BK1038.out 3
     obtain ⟨Ao29, co29, eo29⟩ := Kd.R_slice HO_1039003.out
     subst eo29
     go_wp2_with (first | ((with_reducible refine zS (f := 84) rfl ?_); refine goesL_ (some 34) rfl rfl Try.func84 (by kernel_rfl) rfl #[.agg #[.int .i64 a0_0, .int .i64 a0_1, .slice A0_2 l0_2.length c0_2, .slice Ao29 x1039003_1.length co29]] rfl (by (try simp only [zI, zJ, zK]); first | done | rfl | (simp only [zL, zM]; rfl)) ?_; (with_reducible refine (impl_Relation_reduced.calls k1 a0_0 a0_1 _ _ l0_2 _ _ x1039003_1 t1043 t1044 t1045 t1048 _ ?side1 ?side2 ?side3 ?side4 A25.out).mono ?_); (case side1 => exact mC (yM HR0_2.out HB.out)); (case side2 => exact HC0_2.out); (case side3 => exact mC ((zN HO_1039003.out).2.2)); (case side4 => exact (zN HO_1039003.out).2.1); rintro e w30 ⟨v1046, v1049, rfl, ho0, ho1, hb⟩; refine ⟨_, rfl, ?_⟩; have n0_ := yA (zO (mR HO_1039003.out) (yY ho1) hb); have n1_ := yA (Kd.S_lower ho0 (yX (by with_reducible repeat first | exact HB.out | apply yO | apply yN | apply yP | refine yQ ?_ GE1035.out | refine yQ ?_ GE1036.out | refine yQ ?_ GE1038.out))); have n2_ := yA (Kd.R_lower (Kd.R_new' ho1 (yZ (mR HO_1039003.out))) (yX (by with_reducible repeat first | exact HB.out | apply yO | apply yN | apply yP | refine yQ ?_ GE1035.out | refine yQ ?_ GE1036.out | refine yQ ?_ GE1038.out))); have n3_ := yA (yU (mK BK1035.out) hb); have n4_ := yA (yU (mK BK1036.out) hb); have n5_ := yA (yU (mK BK1038.out) hb); have n6_ := yA (zD (by with_reducible repeat first | exact HB.out | apply yO | apply yN | apply yP | refine yQ ?_ GE1035.out | refine yQ ?_ GE1036.out | refine yQ ?_ GE1038.out) hb); clear HO_1039003; clear BK1035; clear BK1036; clear BK1038; clear HB; have HO_1039003 := n0_; have HO1047 := n1_; have HO1050 := n2_; have BK1035 := n3_; have BK1036 := n4_; have BK1038 := n5_; have HB := n6_; clear n0_ n1_ n2_ n3_ n4_ n5_ n6_; (try clear hb); (try clear hb2); (try clear hk); (try clear hi); (try clear ho0); (try clear ho1); have hnb31 := NB1036_1035.out; have hnc31 := NB1035_1036.out; have hcz32_0 : w30.cell? ⟨gb1036, 0, none⟩ = some (.int .i64 0) := (yV BK1036.out 0).trans rfl; have hcz32_1 : w30.cell? ⟨gb1036, 1, none⟩ = some (.int .i64 0) := (yV BK1036.out 1).trans rfl; have hcz32_2 : w30.cell? ⟨gb1036, 2, none⟩ = some (.slice none 0 0) := (yV BK1036.out 2).trans rfl; have hcz32_3 : w30.cell? ⟨gb1036, 3, none⟩ = some (.slice none 0 0) := (yV BK1036.out 3).trans rfl; have hfz32_0 := yW BK1036.out 0; have hfz32_1 := yW BK1036.out 1; have hfz32_2 := yW BK1036.out 2; have hfz32_3 := yW BK1036.out 3; obtain ⟨Ao33, co33, eo33⟩ := Kd.S_slice HO1047.out; subst eo33; obtain ⟨Ao34, co34, eo34⟩ := Kd.R_slice HO1050.out; subst eo34))
     refine bodyPost_ret (results_ct rfl _ _ gb1036 25 #[.int .i64 t1043, .int .i64 t1044, .slice Ao33 t1045.length co33, .slice Ao34 t1048.length co34] (0, 0) _ rfl (by (with_reducible repeat (first | refine yS ?_ _ | refine yT ?_ | refine yR ?_ _)); refine blk_put (cs := #[.int .i64 t1043, .int .i64 t1044, .slice Ao33 t1045.length co33, .slice none 0 0]) ?_ 3 _ rfl; (with_reducible repeat (first | refine yS ?_ _ | refine yT ?_ | refine yR ?_ _)); refine blk_put (cs := #[.int .i64 t1043, .int .i64 t1044, .slice none 0 0, .slice none 0 0]) ?_ 2 _ rfl; (with_reducible repeat (first | refine yS ?_ _ | refine yT ?_ | refine yR ?_ _)); refine blk_put (cs := #[.int .i64 t1043, .int .i64 0, .slice none 0 0, .slice none 0 0]) ?_ 1 _ rfl; (with_reducible repeat (first | refine yS ?_ _ | refine yT ?_ | refine yR ?_ _)); refine blk_put (cs := #[.int .i64 0, .int .i64 0, .slice none 0 0, .slice none 0 0]) ?_ 0 _ rfl; (with_reducible repeat (first | refine yS ?_ _ | refine yT ?_ | refine yR ?_ _)); exact BK1036.out) Try.underlying25 rfl (by kernel_rfl)) rfl ?_
     exact ⟨_, _, by first | rfl | (simp [errW_none, errW_some] <;> rfl) | (simp [*, errW_none, errW_some] <;> rfl), by (with_reducible repeat (first | apply yH | apply yI | apply yJ)); exact Kd.S_mono (Kd.S_far (p := ⟨gb1036, 3, none⟩) (Kd.S_far (p := ⟨gb1036, 2, none⟩) (Kd.S_far (p := ⟨gb1036, 1, none⟩) (Kd.S_far (p := ⟨gb1036, 0, none⟩) (Kd.S_types HO1047.out BK1036.out (by decide)) (fun _ hk => hk.2) (.int .i64 t1043)) (fun _ hk => hk.2) (.int .i64 t1044)) (fun _ hk => hk.2) (.slice Ao33 t1045.length co33)) (fun _ hk => hk.2) (.slice Ao34 t1048.length co34)) (fun _ hk => trivial), by (with_reducible repeat (first | apply yB | apply yC | apply yD)); exact zP (zQ (p := ⟨gb1036, 3, none⟩) (zQ (p := ⟨gb1036, 2, none⟩) (zQ (p := ⟨gb1036, 1, none⟩) (zQ (p := ⟨gb1036, 0, none⟩) (zR HO1050.out BK1036.out (by decide)) (fun _ hk => hk.2) (.int .i64 t1043)) (fun _ hk => hk.2) (.int .i64 t1044)) (fun _ hk => hk.2) (.slice Ao33 t1045.length co33)) (fun _ hk => hk.2) (.slice Ao34 t1048.length co34)) (fun _ hk => trivial), by repeat (first | (with_reducible first | exact HB.out | apply yO | apply yN | apply yP | refine yQ ?_ GE1035.out | refine yQ ?_ GE1036.out | refine yQ ?_ GE1038.out) | exact HB.out)⟩
 ·replace c3 := Bool.eq_false_iff.mpr c3
  subst c3
  have H1 : (some (0, 0, ([] : List (List Int)), ([] : List Bool), false)) = some (r1, r2, r3, r4, r5) := by rw [if_neg (show ¬ (false = true) by decide)] at H; exact H
  clear H
  have H := H1
  clear H1
  simp only [Option.some.injEq, Prod.mk.injEq] at H
  obtain ⟨rfl, rfl, rfl, rfl, rfl⟩ := H
  go_enter Try.func48, Try.ntmps48
  go_wp2_with (first | ((with_reducible refine gate_dst (N := 1) rfl ?_); refine box_event ?hg (N := 1) ?hd (cs := #[.int .i64 a0_0, .int .i64 a0_1, .slice A0_2 l0_2.length c0_2, .slice A0_3 l0_3.length c0_3]) (t := 25) ?hr ?_; (case hd => rfl); (case hg => rfl); (case hr => first | (go_simp; done) | (go_simp; rfl)); intro gb1035 hg w35 hbox hb; have n0_ := yA (zD (mB HB.out) hb); have n1_ := yA (hbox); have n2_ := yA ((by rw [hg]; exact (yX (mB HB.out)) : w.heap.size ≤ gb1035)); have n3_ := yA ((by rw [hg]; exact (yX (mB HB.out)) : w.heap.size ≤ gb1035)); clear HB; have HB := n0_; have BK1035 := n1_; have GW1035 := n2_; have GE1035 := n3_; clear n0_ n1_ n2_ n3_; clear hb hbox hg) | ((with_reducible refine gate_dst (N := 2) rfl ?_); refine box_event ?hg (N := 2) ?hd (cs := #[.int .i64 0, .int .i64 0, .slice none 0 0, .slice none 0 0]) (t := 25) ?hr ?_; (case hd => rfl); (case hg => rfl); (case hr => first | (go_simp; done) | (go_simp; rfl)); intro gb1036 hg w36 hbox hb; have n0_ := yA (yU (mK BK1035.out) hb); have n1_ := yA (zD (by with_reducible repeat first | exact HB.out | apply yO | apply yN | apply yP | refine yQ ?_ GE1035.out) hb); have n2_ := yA (hbox); have n3_ := yA ((by rw [hg]; exact (yX (by with_reducible repeat first | exact HB.out | apply yO | apply yN | apply yP | refine yQ ?_ GE1035.out)) : w.heap.size ≤ gb1036)); have n4_ := yA ((by rw [hg]; exact (yX (by with_reducible repeat first | exact HB.out | apply yO | apply yN | apply yP | refine yQ ?_ GE1035.out)) : w.heap.size ≤ gb1036)); have n5_ := yA ((by rw [hg]; exact Nat.ne_of_lt (zX (mK BK1035.out)) : gb1035 ≠ gb1036)); have n6_ := yA ((by rw [hg]; exact Nat.ne_of_gt (zX (mK BK1035.out)) : gb1036 ≠ gb1035)); clear BK1035; clear HB; have BK1035 := n0_; have HB := n1_; have BK1036 := n2_; have GW1036 := n3_; have GE1036 := n4_; have NB1035_1036 := n5_; have NB1036_1035 := n6_; clear n0_ n1_ n2_ n3_ n4_ n5_ n6_; clear hb hbox hg; have hnb37 := NB1035_1036.out; have hnc37 := NB1036_1035.out; have hcz38_0 : w36.cell? ⟨gb1035, 0, none⟩ = some (.int .i64 a0_0) := (yV BK1035.out 0).trans rfl; have hcz38_1 : w36.cell? ⟨gb1035, 1, none⟩ = some (.int .i64 a0_1) := (yV BK1035.out 1).trans rfl; have hcz38_2 : w36.cell? ⟨gb1035, 2, none⟩ = some (.slice A0_2 l0_2.length c0_2) := (yV BK1035.out 2).trans rfl; have hcz38_3 : w36.cell? ⟨gb1035, 3, none⟩ = some (.slice A0_3 l0_3.length c0_3) := (yV BK1035.out 3).trans rfl; have hfz38_0 := yW BK1035.out 0; have hfz38_1 := yW BK1035.out 1; have hfz38_2 := yW BK1035.out 2; have hfz38_3 := yW BK1035.out 3) | ((with_reducible refine zS (f := 65) rfl ?_); refine goesL_ (some 8) rfl rfl Try.func65 (by kernel_rfl) rfl #[.agg #[.int .i64 a0_0, .int .i64 a0_1, .slice A0_2 l0_2.length c0_2, .slice A0_3 l0_3.length c0_3]] rfl (by (try simp only [zI, zJ, zK]); first | done | rfl | (simp only [zL, zM]; rfl)) ?_; (with_reducible refine (impl_IsRelation.calls k a0_0 a0_1 _ _ l0_2 _ _ l0_3 false _ ?side1 ?side2 ?side3 ?side4 A2.out).mono ?_); (case side1 => exact mC (yM HR0_2.out HB.out)); (case side2 => exact HC0_2.out); (case side3 => exact mC (yM HR0_3.out HB.out)); (case side4 => exact HC0_3.out); rintro e w39 ⟨rfl, hb⟩; refine ⟨_, rfl, ?_⟩; have n0_ := yA (yU (mK BK1035.out) hb); have n1_ := yA (yU (mK BK1036.out) hb); have n2_ := yA (zD (by with_reducible repeat first | exact HB.out | apply yO | apply yN | apply yP | refine yQ ?_ GE1035.out | refine yQ ?_ GE1036.out) hb); clear BK1035; clear BK1036; clear HB; have BK1035 := n0_; have BK1036 := n1_; have HB := n2_; clear n0_ n1_ n2_; (try clear hb); (try clear hb2); (try clear hk); (try clear hi); have hcz40_0 : w39.cell? ⟨gb1036, 0, none⟩ = some (.int .i64 0) := (yV BK1036.out 0).trans rfl; have hcz40_1 : w39.cell? ⟨gb1036, 1, none⟩ = some (.int .i64 0) := (yV BK1036.out 1).trans rfl; have hcz40_2 : w39.cell? ⟨gb1036, 2, none⟩ = some (.slice none 0 0) := (yV BK1036.out 2).trans rfl; have hcz40_3 : w39.cell? ⟨gb1036, 3, none⟩ = some (.slice none 0 0) := (yV BK1036.out 3).trans rfl; have hfz40_0 := yW BK1036.out 0; have hfz40_1 := yW BK1036.out 1; have hfz40_2 := yW BK1036.out 2; have hfz40_3 := yW BK1036.out 3))
  refine bodyPost_ret (results_ct rfl _ _ gb1036 25 #[.int .i64 0, .int .i64 0, .slice none 0 0, .slice none 0 0] (0, 0) _ rfl (by (with_reducible repeat (first | refine yS ?_ _ | refine yT ?_ | refine yR ?_ _)); refine blk_put (cs := #[.int .i64 0, .int .i64 0, .slice none 0 0, .slice none 0 0]) ?_ 3 _ rfl; (with_reducible repeat (first | refine yS ?_ _ | refine yT ?_ | refine yR ?_ _)); refine blk_put (cs := #[.int .i64 0, .int .i64 0, .slice none 0 0, .slice none 0 0]) ?_ 2 _ rfl; (with_reducible repeat (first | refine yS ?_ _ | refine yT ?_ | refine yR ?_ _)); refine blk_put (cs := #[.int .i64 0, .int .i64 0, .slice none 0 0, .slice none 0 0]) ?_ 1 _ rfl; (with_reducible repeat (first | refine yS ?_ _ | refine yT ?_ | refine yR ?_ _)); refine blk_put (cs := #[.int .i64 0, .int .i64 0, .slice none 0 0, .slice none 0 0]) ?_ 0 _ rfl; (with_reducible repeat (first | refine yS ?_ _ | refine yT ?_ | refine yR ?_ _)); exact BK1036.out) Try.underlying25 rfl (by kernel_rfl)) rfl ?_
  exact ⟨_, _, by first | rfl | (simp [errW_none, errW_some] <;> rfl) | (simp [*, errW_none, errW_some] <;> rfl), by first | exact Kd.S_nil _ _ _ _ _ | exact Kd.N_nil _ _ _ _ _ | exact Kd.V_nil _ _ _ _ _ | exact Kd.Q_nil _ _ _ _ _ | exact Kd.R_nil _ _ _ _ _, by first | exact Kd.R_nil _ _ _ _ _ | exact Kd.N_nil _ _ _ _ _ | exact Kd.V_nil _ _ _ _ _ | exact Kd.Q_nil _ _ _ _ _ | exact Kd.S_nil _ _ _ _ _, by repeat (first | (with_reducible first | exact HB.out | apply yO | apply yN | apply yP | refine yQ ?_ GE1035.out | refine yQ ?_ GE1036.out) | exact HB.out)⟩

end Go.Proofs.Ytgopcliohchkmaa.Q
