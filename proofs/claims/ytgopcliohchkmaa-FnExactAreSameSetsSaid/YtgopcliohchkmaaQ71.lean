-- written by a program of this session (a turned copy of the kit's print) out of the translation
-- squeezed
-- compact
import Derived.Test.YtgopcliohchkmaaQ0
import Derived.Test.YtgopcliohchkmaaQ32
namespace Go.Proofs.Ytgopcliohchkmaa.Q
open Go.RowKit Go.Proofs.YtgopcliohchkmaaW.PrintWords Go.Proofs.YtgopcliohchkmaaW.PrintLast Go.Proofs.YtgopcliohchkmaaW.PrintMore
attribute [local go_sem] max2_int min2_int max_two min_two max_three min_three max_four min_four   -- for this text's walks alone
set_option linter.unusedVariables false
set_option linter.unusedSimpArgs false

/-! ### spec_SameRelation: function 82 -/
mutual
def spec_SameRelation.j0 : Nat → Bool → Int → Int → List (List Int) → List Bool → Int → Int → List (List Int) → List Bool → Option (Bool)
 | 0, _, _, _, _, _, _, _, _, _ => none
 | k + 1, x36, x832000, x832001, x832002, x832003, x833000, x833001, x833002, x833003 => if x36 = true then (some false) else (spec_SameRelation.l0 k 0 x832000 x832001 x832002 x832003 x833000 x833001 x833002 x833003)
def spec_SameRelation.l0 : Nat → Int → Int → Int → List (List Int) → List Bool → Int → Int → List (List Int) → List Bool → Option (Bool)
 | 0, _, _, _, _, _, _, _, _, _ => none
 | k + 1, x5, x832000, x832001, x832002, x832003, x833000, x833001, x833002, x833003 => if x5 < (x832002.length : Int) then (if 0 ≤ x5 then (if x5 < (x833002.length : Int) then ((spec_l3Same.f k (rd_L1 x832002 x5) (rd_L1 x833002 x5)).bind fun t835 => (if t835 = true then (spec_SameRelation.l0 k (wrap64 (x5 + 1)) x832000 x832001 x832002 x832003 x833000 x833001 x833002 x833003) else (some false))) else (none)) else (none)) else (spec_SameRelation.l1 k 0 x832000 x832001 x832002 x832003 x833000 x833001 x833002 x833003)
def spec_SameRelation.l1 : Nat → Int → Int → Int → List (List Int) → List Bool → Int → Int → List (List Int) → List Bool → Option (Bool)
 | 0, _, _, _, _, _, _, _, _, _ => none
 | k + 1, x6, x832000, x832001, x832002, x832003, x833000, x833001, x833002, x833003 => if x6 < (x832003.length : Int) then (if 0 ≤ x6 then (if x6 < (x833003.length : Int) then (if ((rdOf false x832003 x6) != (rdOf false x833003 x6)) = true then (some false) else (spec_SameRelation.l1 k (wrap64 (x6 + 1)) x832000 x832001 x832002 x832003 x833000 x833001 x833002 x833003)) else (none)) else (none)) else (some true)
end
def spec_SameRelation.f (k : Nat) (a0_0 : Int) (a0_1 : Int) (l0_2 : List (List Int)) (l0_3 : List Bool) (a1_0 : Int) (a1_1 : Int) (l1_2 : List (List Int)) (l1_3 : List Bool) : Option (Bool) := if a0_0 = a1_0 then (if a0_1 = a1_1 then (if (l0_2.length : Int) = (l1_2.length : Int) then (spec_SameRelation.j0 k ((l0_3.length : Int) != (l1_3.length : Int)) a0_0 a0_1 l0_2 l0_3 a1_0 a1_1 l1_2 l1_3) else (spec_SameRelation.j0 k true a0_0 a0_1 l0_2 l0_3 a1_0 a1_1 l1_2 l1_3)) else (spec_SameRelation.j0 k true a0_0 a0_1 l0_2 l0_3 a1_0 a1_1 l1_2 l1_3)) else (spec_SameRelation.j0 k true a0_0 a0_1 l0_2 l0_3 a1_0 a1_1 l1_2 l1_3)
theorem spec_SameRelation.mono_l : ∀ k, (∀ y0 y1 y2 y3 y4 y5 y6 y7 y8, LeO (spec_SameRelation.j0 k y0 y1 y2 y3 y4 y5 y6 y7 y8) (spec_SameRelation.j0 (k + 1) y0 y1 y2 y3 y4 y5 y6 y7 y8)) ∧ (∀ y0 y1 y2 y3 y4 y5 y6 y7 y8, LeO (spec_SameRelation.l0 k y0 y1 y2 y3 y4 y5 y6 y7 y8) (spec_SameRelation.l0 (k + 1) y0 y1 y2 y3 y4 y5 y6 y7 y8)) ∧ (∀ y0 y1 y2 y3 y4 y5 y6 y7 y8, LeO (spec_SameRelation.l1 k y0 y1 y2 y3 y4 y5 y6 y7 y8) (spec_SameRelation.l1 (k + 1) y0 y1 y2 y3 y4 y5 y6 y7 y8))
 | 0 => ⟨fun _ _ _ _ _ _ _ _ _ r h => by simp [spec_SameRelation.j0] at h, fun _ _ _ _ _ _ _ _ _ r h => by simp [spec_SameRelation.l0] at h, fun _ _ _ _ _ _ _ _ _ r h => by simp [spec_SameRelation.l1] at h⟩
 | k + 1 => by
  obtain ⟨ih0, ih1, ih2⟩ := spec_SameRelation.mono_l k
  refine ⟨?_, ?_, ?_⟩
  ·intro y0 y1 y2 y3 y4 y5 y6 y7 y8
   unfold spec_SameRelation.j0
   repeat' first
   | (with_reducible exact ih0 _ _ _ _ _ _ _ _ _)
   | (with_reducible exact ih1 _ _ _ _ _ _ _ _ _)
   | (with_reducible exact ih2 _ _ _ _ _ _ _ _ _)
   | (with_reducible exact spec_l3Same.mono _ _ _)
   | (with_reducible exact LeO.refl _)
   | (with_reducible exact LeO.none _)
   | (with_reducible refine LeO.ite ?_ ?_)
   | (with_reducible refine LeO.bind ?_ (fun _ => ?_))
   | exact ih0 _ _ _ _ _ _ _ _ _
   | exact ih1 _ _ _ _ _ _ _ _ _
   | exact ih2 _ _ _ _ _ _ _ _ _
   | exact spec_l3Same.mono _ _ _
   | exact LeO.none _
   | refine LeO.ite ?_ ?_
   | refine LeO.bind ?_ (fun _ => ?_)
  ·intro y0 y1 y2 y3 y4 y5 y6 y7 y8
   unfold spec_SameRelation.l0
   repeat' first
   | (with_reducible exact ih0 _ _ _ _ _ _ _ _ _)
   | (with_reducible exact ih1 _ _ _ _ _ _ _ _ _)
   | (with_reducible exact ih2 _ _ _ _ _ _ _ _ _)
   | (with_reducible exact spec_l3Same.mono _ _ _)
   | (with_reducible exact LeO.refl _)
   | (with_reducible exact LeO.none _)
   | (with_reducible refine LeO.ite ?_ ?_)
   | (with_reducible refine LeO.bind ?_ (fun _ => ?_))
   | exact ih0 _ _ _ _ _ _ _ _ _
   | exact ih1 _ _ _ _ _ _ _ _ _
   | exact ih2 _ _ _ _ _ _ _ _ _
   | exact spec_l3Same.mono _ _ _
   | exact LeO.none _
   | refine LeO.ite ?_ ?_
   | refine LeO.bind ?_ (fun _ => ?_)
  ·intro y0 y1 y2 y3 y4 y5 y6 y7 y8
   unfold spec_SameRelation.l1
   repeat' first
   | (with_reducible exact ih0 _ _ _ _ _ _ _ _ _)
   | (with_reducible exact ih1 _ _ _ _ _ _ _ _ _)
   | (with_reducible exact ih2 _ _ _ _ _ _ _ _ _)
   | (with_reducible exact spec_l3Same.mono _ _ _)
   | (with_reducible exact LeO.refl _)
   | (with_reducible exact LeO.none _)
   | (with_reducible refine LeO.ite ?_ ?_)
   | (with_reducible refine LeO.bind ?_ (fun _ => ?_))
   | exact ih0 _ _ _ _ _ _ _ _ _
   | exact ih1 _ _ _ _ _ _ _ _ _
   | exact ih2 _ _ _ _ _ _ _ _ _
   | exact spec_l3Same.mono _ _ _
   | exact LeO.none _
   | refine LeO.ite ?_ ?_
   | refine LeO.bind ?_ (fun _ => ?_)
theorem spec_SameRelation.mono : ∀ a0 a1 a2 a3 a4 a5 a6 a7 k, LeO (spec_SameRelation.f k a0 a1 a2 a3 a4 a5 a6 a7) (spec_SameRelation.f (k + 1) a0 a1 a2 a3 a4 a5 a6 a7) := by
 intro a0 a1 a2 a3 a4 a5 a6 a7 k
 obtain ⟨ih0, ih1, ih2⟩ := spec_SameRelation.mono_l k
 unfold spec_SameRelation.f
 repeat' first
   | (with_reducible exact ih0 _ _ _ _ _ _ _ _ _)
   | (with_reducible exact ih1 _ _ _ _ _ _ _ _ _)
   | (with_reducible exact ih2 _ _ _ _ _ _ _ _ _)
   | (with_reducible exact spec_l3Same.mono _ _ _)
   | (with_reducible exact LeO.refl _)
   | (with_reducible exact LeO.none _)
   | (with_reducible refine LeO.ite ?_ ?_)
   | (with_reducible refine LeO.bind ?_ (fun _ => ?_))
   | exact ih0 _ _ _ _ _ _ _ _ _
   | exact ih1 _ _ _ _ _ _ _ _ _
   | exact ih2 _ _ _ _ _ _ _ _ _
   | exact spec_l3Same.mono _ _ _
   | exact LeO.none _
   | refine LeO.ite ?_ ?_
   | refine LeO.bind ?_ (fun _ => ?_)
set_option maxHeartbeats 8000000 in
set_option maxRecDepth 100000 in
theorem spec_SameRelation.calls (k : Nat) (a0_0 : Int) (a0_1 : Int) (A0_2 : Option Addr) (c0_2 : Nat) (l0_2 : List (List Int)) (A0_3 : Option Addr) (c0_3 : Nat) (l0_3 : List Bool) (a1_0 : Int) (a1_1 : Int) (A1_2 : Option Addr) (c1_2 : Nat) (l1_2 : List (List Int)) (A1_3 : Option Addr) (c1_3 : Nat) (l1_3 : List Bool) (r : Bool) (w : World) (hr0_2 : Kd.C (Kd.slice 3 (Kd.int .i64)) w A0_2 l0_2.length l0_2) (hc0_2 : l0_2.length ≤ c0_2) (hr0_3 : Kd.C Kd.bool w A0_3 l0_3.length l0_3) (hc0_3 : l0_3.length ≤ c0_3) (hr1_2 : Kd.C (Kd.slice 3 (Kd.int .i64)) w A1_2 l1_2.length l1_2) (hc1_2 : l1_2.length ≤ c1_2) (hr1_3 : Kd.C Kd.bool w A1_3 l1_3.length l1_3) (hc1_3 : l1_3.length ≤ c1_3) (h : spec_SameRelation.f k a0_0 a0_1 l0_2 l0_3 a1_0 a1_1 l1_2 l1_3 = some r) :
  Calls Try.prog 82 #[.agg #[.int .i64 a0_0, .int .i64 a0_1, .slice A0_2 l0_2.length c0_2, .slice A0_3 l0_3.length c0_3], .agg #[.int .i64 a1_0, .int .i64 a1_1, .slice A1_2 l1_2.length c1_2, .slice A1_3 l1_3.length c1_3]] w fun e w' => e = .returned (.bool r) ∧ Below w.heap.size w w' := by
 have hu25 := Try.underlying25
 have HR0_2 := yA hr0_2
 have HC0_2 := yA hc0_2
 clear hr0_2 hc0_2
 have HR0_3 := yA hr0_3
 have HC0_3 := yA hc0_3
 clear hr0_3 hc0_3
 have HR1_2 := yA hr1_2
 have HC1_2 := yA hc1_2
 clear hr1_2 hc1_2
 have HR1_3 := yA hr1_3
 have HC1_3 := yA hc1_3
 clear hr1_3 hc1_3
 have HB := yA (zV w.heap.size w)
 have H : (if a0_0 = a1_0 then (if a0_1 = a1_1 then (if (l0_2.length : Int) = (l1_2.length : Int) then (spec_SameRelation.j0 k ((l0_3.length : Int) != (l1_3.length : Int)) a0_0 a0_1 l0_2 l0_3 a1_0 a1_1 l1_2 l1_3) else (spec_SameRelation.j0 k true a0_0 a0_1 l0_2 l0_3 a1_0 a1_1 l1_2 l1_3)) else (spec_SameRelation.j0 k true a0_0 a0_1 l0_2 l0_3 a1_0 a1_1 l1_2 l1_3)) else (spec_SameRelation.j0 k true a0_0 a0_1 l0_2 l0_3 a1_0 a1_1 l1_2 l1_3)) = some r := h
 clear h
 have HC3 := yA H
 clear H
 go_enter Try.func82, Try.ntmps82
 go_upto_region 1 with (first | ((with_reducible refine gate_dst (N := 2) rfl ?_); refine box_event ?hg (N := 2) ?hd (cs := #[.int .i64 a0_0, .int .i64 a0_1, .slice A0_2 l0_2.length c0_2, .slice A0_3 l0_3.length c0_3]) (t := 25) ?hr ?_; (case hd => rfl); (case hg => rfl); (case hr => first | (go_simp; done) | (go_simp; rfl)); intro gb831 hg w4 hbox hb; have n0_ := yA (zD (mB HB.out) hb); have n1_ := yA (hbox); have n2_ := yA ((by rw [hg]; exact (yX (mB HB.out)) : w.heap.size ≤ gb831)); have n3_ := yA ((by rw [hg]; exact (yX (mB HB.out)) : w.heap.size ≤ gb831)); clear HB; have HB := n0_; have BK831 := n1_; have GW831 := n2_; have GE831 := n3_; clear n0_ n1_ n2_ n3_; clear hb hbox hg) | ((with_reducible refine gate_dst (N := 3) rfl ?_); refine box_event ?hg (N := 3) ?hd (cs := #[.int .i64 a1_0, .int .i64 a1_1, .slice A1_2 l1_2.length c1_2, .slice A1_3 l1_3.length c1_3]) (t := 25) ?hr ?_; (case hd => rfl); (case hg => rfl); (case hr => first | (go_simp; done) | (go_simp; rfl)); intro gb832 hg w5 hbox hb; have n0_ := yA (yU (mK BK831.out) hb); have n1_ := yA (zD (by with_reducible repeat first | exact HB.out | apply yO | apply yN | apply yP | refine yQ ?_ GE831.out) hb); have n2_ := yA (hbox); have n3_ := yA ((by rw [hg]; exact (yX (by with_reducible repeat first | exact HB.out | apply yO | apply yN | apply yP | refine yQ ?_ GE831.out)) : w.heap.size ≤ gb832)); have n4_ := yA ((by rw [hg]; exact (yX (by with_reducible repeat first | exact HB.out | apply yO | apply yN | apply yP | refine yQ ?_ GE831.out)) : w.heap.size ≤ gb832)); have n5_ := yA ((by rw [hg]; exact Nat.ne_of_lt (zX (mK BK831.out)) : gb831 ≠ gb832)); have n6_ := yA ((by rw [hg]; exact Nat.ne_of_gt (zX (mK BK831.out)) : gb832 ≠ gb831)); clear BK831; clear HB; have BK831 := n0_; have HB := n1_; have BK832 := n2_; have GW832 := n3_; have GE832 := n4_; have NB831_832 := n5_; have NB832_831 := n6_; clear n0_ n1_ n2_ n3_ n4_ n5_ n6_; clear hb hbox hg))
 repeat (go_quiet (first | ((with_reducible refine gate_dst (N := 2) rfl ?_); refine box_event ?hg (N := 2) ?hd (cs := #[.int .i64 a0_0, .int .i64 a0_1, .slice A0_2 l0_2.length c0_2, .slice A0_3 l0_3.length c0_3]) (t := 25) ?hr ?_; (case hd => rfl); (case hg => rfl); (case hr => first | (go_simp; done) | (go_simp; rfl)); intro gb831 hg w4 hbox hb; have n0_ := yA (zD (mB HB.out) hb); have n1_ := yA (hbox); have n2_ := yA ((by rw [hg]; exact (yX (mB HB.out)) : w.heap.size ≤ gb831)); have n3_ := yA ((by rw [hg]; exact (yX (mB HB.out)) : w.heap.size ≤ gb831)); clear HB; have HB := n0_; have BK831 := n1_; have GW831 := n2_; have GE831 := n3_; clear n0_ n1_ n2_ n3_; clear hb hbox hg) | ((with_reducible refine gate_dst (N := 3) rfl ?_); refine box_event ?hg (N := 3) ?hd (cs := #[.int .i64 a1_0, .int .i64 a1_1, .slice A1_2 l1_2.length c1_2, .slice A1_3 l1_3.length c1_3]) (t := 25) ?hr ?_; (case hd => rfl); (case hg => rfl); (case hr => first | (go_simp; done) | (go_simp; rfl)); intro gb832 hg w5 hbox hb; have n0_ := yA (yU (mK BK831.out) hb); have n1_ := yA (zD (by with_reducible repeat first | exact HB.out | apply yO | apply yN | apply yP | refine yQ ?_ GE831.out) hb); have n2_ := yA (hbox); have n3_ := yA ((by rw [hg]; exact (yX (by with_reducible repeat first | exact HB.out | apply yO | apply yN | apply yP | refine yQ ?_ GE831.out)) : w.heap.size ≤ gb832)); have n4_ := yA ((by rw [hg]; exact (yX (by with_reducible repeat first | exact HB.out | apply yO | apply yN | apply yP | refine yQ ?_ GE831.out)) : w.heap.size ≤ gb832)); have n5_ := yA ((by rw [hg]; exact Nat.ne_of_lt (zX (mK BK831.out)) : gb831 ≠ gb832)); have n6_ := yA ((by rw [hg]; exact Nat.ne_of_gt (zX (mK BK831.out)) : gb832 ≠ gb831)); clear BK831; clear HB; have BK831 := n0_; have HB := n1_; have BK832 := n2_; have GW832 := n3_; have GE832 := n4_; have NB831_832 := n5_; have NB832_831 := n6_; clear n0_ n1_ n2_ n3_ n4_ n5_ n6_; clear hb hbox hg)); go_upto_region 1 with (first | ((with_reducible refine gate_dst (N := 2) rfl ?_); refine box_event ?hg (N := 2) ?hd (cs := #[.int .i64 a0_0, .int .i64 a0_1, .slice A0_2 l0_2.length c0_2, .slice A0_3 l0_3.length c0_3]) (t := 25) ?hr ?_; (case hd => rfl); (case hg => rfl); (case hr => first | (go_simp; done) | (go_simp; rfl)); intro gb831 hg w4 hbox hb; have n0_ := yA (zD (mB HB.out) hb); have n1_ := yA (hbox); have n2_ := yA ((by rw [hg]; exact (yX (mB HB.out)) : w.heap.size ≤ gb831)); have n3_ := yA ((by rw [hg]; exact (yX (mB HB.out)) : w.heap.size ≤ gb831)); clear HB; have HB := n0_; have BK831 := n1_; have GW831 := n2_; have GE831 := n3_; clear n0_ n1_ n2_ n3_; clear hb hbox hg) | ((with_reducible refine gate_dst (N := 3) rfl ?_); refine box_event ?hg (N := 3) ?hd (cs := #[.int .i64 a1_0, .int .i64 a1_1, .slice A1_2 l1_2.length c1_2, .slice A1_3 l1_3.length c1_3]) (t := 25) ?hr ?_; (case hd => rfl); (case hg => rfl); (case hr => first | (go_simp; done) | (go_simp; rfl)); intro gb832 hg w5 hbox hb; have n0_ := yA (yU (mK BK831.out) hb); have n1_ := yA (zD (by with_reducible repeat first | exact HB.out | apply yO | apply yN | apply yP | refine yQ ?_ GE831.out) hb); have n2_ := yA (hbox); have n3_ := yA ((by rw [hg]; exact (yX (by with_reducible repeat first | exact HB.out | apply yO | apply yN | apply yP | refine yQ ?_ GE831.out)) : w.heap.size ≤ gb832)); have n4_ := yA ((by rw [hg]; exact (yX (by with_reducible repeat first | exact HB.out | apply yO | apply yN | apply yP | refine yQ ?_ GE831.out)) : w.heap.size ≤ gb832)); have n5_ := yA ((by rw [hg]; exact Nat.ne_of_lt (zX (mK BK831.out)) : gb831 ≠ gb832)); have n6_ := yA ((by rw [hg]; exact Nat.ne_of_gt (zX (mK BK831.out)) : gb832 ≠ gb831)); clear BK831; clear HB; have BK831 := n0_; have HB := n1_; have BK832 := n2_; have GW832 := n3_; have GE832 := n4_; have NB831_832 := n5_; have NB832_831 := n6_; clear n0_ n1_ n2_ n3_ n4_ n5_ n6_; clear hb hbox hg)))
 (try simp only [Act.put, zA, zB, zC])
 go_cut [36] (fun v36 wc => ∃ (kq : Nat) (x36_2 : Bool), v36 = .bool x36_2 ∧ Aside0 (spec_SameRelation.j0 kq x36_2 a0_0 a0_1 l0_2 l0_3 a1_0 a1_1 l1_2 l1_3 = some r) ∧ Aside0 (kq ≤ k) ∧ Aside0 (wc.heap[gb831]? = some (.cells #[.int .i64 a0_0, .int .i64 a0_1, (.slice A0_2 l0_2.length c0_2), (.slice A0_3 l0_3.length c0_3)] 25 (0, 0))) ∧ Aside0 (wc.heap[gb832]? = some (.cells #[.int .i64 a1_0, .int .i64 a1_1, (.slice A1_2 l1_2.length c1_2), (.slice A1_3 l1_3.length c1_3)] 25 (0, 0))) ∧ Aside0 (Below w.heap.size w wc))
 case first =>
  have H := HC3.out
  clear HC3
  by_cases c6 : a0_0 = a1_0
  ·rw [if_pos c6] at H
   have c6b0 : (a0_0 == a1_0) = true := beq_iff_eq.mpr c6
   have c6b1 : (a0_0 != a1_0) = false := bne_eq_false_iff_eq.mpr c6
   clear c6
   (first | rw [c6b0] | (simp only [i64_w, i32_w]; rw [c6b0]) | skip)
   by_cases c7 : a0_1 = a1_1
   ·rw [if_pos c7] at H
    have c7b0 : (a0_1 == a1_1) = true := beq_iff_eq.mpr c7
    have c7b1 : (a0_1 != a1_1) = false := bne_eq_false_iff_eq.mpr c7
    clear c7
    by_cases c8 : (l0_2.length : Int) = (l1_2.length : Int)
    ·rw [if_pos c8] at H
     have c8b0 : ((l0_2.length : Int) == (l1_2.length : Int)) = true := beq_iff_eq.mpr c8
     have c8b1 : ((l0_2.length : Int) != (l1_2.length : Int)) = false := bne_eq_false_iff_eq.mpr c8
     have c8b2 : (l0_2.length == l1_2.length) = true := by first | simpa using c8 | (simp at c8 ⊢; omega)
     clear c8
     have H' := yA H
     clear H
     have hnb9 := NB831_832.out
     have hnc9 := NB832_831.out
     have hcz10_0 : w5.cell? ⟨gb831, 0, none⟩ = some (.int .i64 a0_0) := (yV BK831.out 0).trans rfl
     have hcz10_1 : w5.cell? ⟨gb831, 1, none⟩ = some (.int .i64 a0_1) := (yV BK831.out 1).trans rfl
     have hcz10_2 : w5.cell? ⟨gb831, 2, none⟩ = some (.slice A0_2 l0_2.length c0_2) := (yV BK831.out 2).trans rfl
     have hcz10_3 : w5.cell? ⟨gb831, 3, none⟩ = some (.slice A0_3 l0_3.length c0_3) := (yV BK831.out 3).trans rfl
     have hfz10_0 := yW BK831.out 0
     have hfz10_1 := yW BK831.out 1
     have hfz10_2 := yW BK831.out 2
     have hfz10_3 := yW BK831.out 3
     have hcz11_0 : w5.cell? ⟨gb832, 0, none⟩ = some (.int .i64 a1_0) := (yV BK832.out 0).trans rfl
     have hcz11_1 : w5.cell? ⟨gb832, 1, none⟩ = some (.int .i64 a1_1) := (yV BK832.out 1).trans rfl
     have hcz11_2 : w5.cell? ⟨gb832, 2, none⟩ = some (.slice A1_2 l1_2.length c1_2) := (yV BK832.out 2).trans rfl
     have hcz11_3 : w5.cell? ⟨gb832, 3, none⟩ = some (.slice A1_3 l1_3.length c1_3) := (yV BK832.out 3).trans rfl
     have hfz11_0 := yW BK832.out 0
     have hfz11_1 := yW BK832.out 1
     have hfz11_2 := yW BK832.out 2
     have hfz11_3 := yW BK832.out 3
     go_wp2
     repeat (go_quiet (fail); try go_wp2)
     go_meet
     case rel => exact ⟨_, (((l0_3.length : Int) != (l1_3.length : Int))), (by first | rfl | (simp; done) | (simp [*]; done)), H', ⟨by first | omega | exact zT _⟩, ⟨by (with_reducible repeat (first | refine yS ?_ _ | refine yT ?_ | refine yR ?_ _)); exact BK831.out⟩, ⟨by (with_reducible repeat (first | refine yS ?_ _ | refine yT ?_ | refine yR ?_ _)); exact BK832.out⟩, ⟨by repeat (first | (with_reducible first | exact HB.out | apply yO | apply yN | apply yP | refine yQ ?_ GE831.out | refine yQ ?_ GE832.out) | exact HB.out)⟩⟩
    ·rw [if_neg c8] at H
     have c8b0 : ((l0_2.length : Int) == (l1_2.length : Int)) = false := beq_eq_false_iff_ne.mpr c8
     have c8b1 : ((l0_2.length : Int) != (l1_2.length : Int)) = true := bne_iff_ne.mpr c8
     have c8b2 : (l0_2.length == l1_2.length) = false := by first | simpa using c8 | (simp at c8 ⊢; omega)
     have H' := yA H
     clear H
     have hnb12 := NB831_832.out
     have hnc12 := NB832_831.out
     have hcz13_0 : w5.cell? ⟨gb831, 0, none⟩ = some (.int .i64 a0_0) := (yV BK831.out 0).trans rfl
     have hcz13_1 : w5.cell? ⟨gb831, 1, none⟩ = some (.int .i64 a0_1) := (yV BK831.out 1).trans rfl
     have hcz13_2 : w5.cell? ⟨gb831, 2, none⟩ = some (.slice A0_2 l0_2.length c0_2) := (yV BK831.out 2).trans rfl
     have hcz13_3 : w5.cell? ⟨gb831, 3, none⟩ = some (.slice A0_3 l0_3.length c0_3) := (yV BK831.out 3).trans rfl
     have hfz13_0 := yW BK831.out 0
     have hfz13_1 := yW BK831.out 1
     have hfz13_2 := yW BK831.out 2
     have hfz13_3 := yW BK831.out 3
     have hcz14_0 : w5.cell? ⟨gb832, 0, none⟩ = some (.int .i64 a1_0) := (yV BK832.out 0).trans rfl
     have hcz14_1 : w5.cell? ⟨gb832, 1, none⟩ = some (.int .i64 a1_1) := (yV BK832.out 1).trans rfl
     have hcz14_2 : w5.cell? ⟨gb832, 2, none⟩ = some (.slice A1_2 l1_2.length c1_2) := (yV BK832.out 2).trans rfl
     have hcz14_3 : w5.cell? ⟨gb832, 3, none⟩ = some (.slice A1_3 l1_3.length c1_3) := (yV BK832.out 3).trans rfl
     have hfz14_0 := yW BK832.out 0
     have hfz14_1 := yW BK832.out 1
     have hfz14_2 := yW BK832.out 2
     have hfz14_3 := yW BK832.out 3
     go_wp2
     repeat (go_quiet (fail); try go_wp2)
     go_meet
     case rel => exact ⟨_, (true), (by first | rfl | (simp; done) | (simp [*]; done)), H', ⟨by first | omega | exact zT _⟩, ⟨by (with_reducible repeat (first | refine yS ?_ _ | refine yT ?_ | refine yR ?_ _)); exact BK831.out⟩, ⟨by (with_reducible repeat (first | refine yS ?_ _ | refine yT ?_ | refine yR ?_ _)); exact BK832.out⟩, ⟨by repeat (first | (with_reducible first | exact HB.out | apply yO | apply yN | apply yP | refine yQ ?_ GE831.out | refine yQ ?_ GE832.out) | exact HB.out)⟩⟩
   ·rw [if_neg c7] at H
    have c7b0 : (a0_1 == a1_1) = false := beq_eq_false_iff_ne.mpr c7
    have c7b1 : (a0_1 != a1_1) = true := bne_iff_ne.mpr c7
    have H' := yA H
    clear H
    have hnb15 := NB831_832.out
    have hnc15 := NB832_831.out
    have hcz16_0 : w5.cell? ⟨gb831, 0, none⟩ = some (.int .i64 a0_0) := (yV BK831.out 0).trans rfl
    have hcz16_1 : w5.cell? ⟨gb831, 1, none⟩ = some (.int .i64 a0_1) := (yV BK831.out 1).trans rfl
    have hcz16_2 : w5.cell? ⟨gb831, 2, none⟩ = some (.slice A0_2 l0_2.length c0_2) := (yV BK831.out 2).trans rfl
    have hcz16_3 : w5.cell? ⟨gb831, 3, none⟩ = some (.slice A0_3 l0_3.length c0_3) := (yV BK831.out 3).trans rfl
    have hfz16_0 := yW BK831.out 0
    have hfz16_1 := yW BK831.out 1
    have hfz16_2 := yW BK831.out 2
    have hfz16_3 := yW BK831.out 3
    have hcz17_0 : w5.cell? ⟨gb832, 0, none⟩ = some (.int .i64 a1_0) := (yV BK832.out 0).trans rfl
    have hcz17_1 : w5.cell? ⟨gb832, 1, none⟩ = some (.int .i64 a1_1) := (yV BK832.out 1).trans rfl
    have hcz17_2 : w5.cell? ⟨gb832, 2, none⟩ = some (.slice A1_2 l1_2.length c1_2) := (yV BK832.out 2).trans rfl
    have hcz17_3 : w5.cell? ⟨gb832, 3, none⟩ = some (.slice A1_3 l1_3.length c1_3) := (yV BK832.out 3).trans rfl
    have hfz17_0 := yW BK832.out 0
    have hfz17_1 := yW BK832.out 1
    have hfz17_2 := yW BK832.out 2
    have hfz17_3 := yW BK832.out 3
    go_wp2
    repeat (go_quiet (fail); try go_wp2)
    go_meet
    case rel => exact ⟨_, (true), (by first | rfl | (simp; done) | (simp [*]; done)), H', ⟨by first | omega | exact zT _⟩, ⟨by (with_reducible repeat (first | refine yS ?_ _ | refine yT ?_ | refine yR ?_ _)); exact BK831.out⟩, ⟨by (with_reducible repeat (first | refine yS ?_ _ | refine yT ?_ | refine yR ?_ _)); exact BK832.out⟩, ⟨by repeat (first | (with_reducible first | exact HB.out | apply yO | apply yN | apply yP | refine yQ ?_ GE831.out | refine yQ ?_ GE832.out) | exact HB.out)⟩⟩
  ·rw [if_neg c6] at H
   have c6b0 : (a0_0 == a1_0) = false := beq_eq_false_iff_ne.mpr c6
   have c6b1 : (a0_0 != a1_0) = true := bne_iff_ne.mpr c6
   (first | rw [c6b0] | (simp only [i64_w, i32_w]; rw [c6b0]) | skip)
   have H' := yA H
   clear H
   have hnb18 := NB831_832.out
   have hnc18 := NB832_831.out
   have hcz19_0 : w5.cell? ⟨gb831, 0, none⟩ = some (.int .i64 a0_0) := (yV BK831.out 0).trans rfl
   have hcz19_1 : w5.cell? ⟨gb831, 1, none⟩ = some (.int .i64 a0_1) := (yV BK831.out 1).trans rfl
   have hcz19_2 : w5.cell? ⟨gb831, 2, none⟩ = some (.slice A0_2 l0_2.length c0_2) := (yV BK831.out 2).trans rfl
   have hcz19_3 : w5.cell? ⟨gb831, 3, none⟩ = some (.slice A0_3 l0_3.length c0_3) := (yV BK831.out 3).trans rfl
   have hfz19_0 := yW BK831.out 0
   have hfz19_1 := yW BK831.out 1
   have hfz19_2 := yW BK831.out 2
   have hfz19_3 := yW BK831.out 3
   have hcz20_0 : w5.cell? ⟨gb832, 0, none⟩ = some (.int .i64 a1_0) := (yV BK832.out 0).trans rfl
   have hcz20_1 : w5.cell? ⟨gb832, 1, none⟩ = some (.int .i64 a1_1) := (yV BK832.out 1).trans rfl
   have hcz20_2 : w5.cell? ⟨gb832, 2, none⟩ = some (.slice A1_2 l1_2.length c1_2) := (yV BK832.out 2).trans rfl
   have hcz20_3 : w5.cell? ⟨gb832, 3, none⟩ = some (.slice A1_3 l1_3.length c1_3) := (yV BK832.out 3).trans rfl
   have hfz20_0 := yW BK832.out 0
   have hfz20_1 := yW BK832.out 1
   have hfz20_2 := yW BK832.out 2
   have hfz20_3 := yW BK832.out 3
   go_wp2
   repeat (go_quiet (fail); try go_wp2)
   go_meet
   case rel => exact ⟨_, (true), (by first | rfl | (simp; done) | (simp [*]; done)), H', ⟨by first | omega | exact zT _⟩, ⟨by (with_reducible repeat (first | refine yS ?_ _ | refine yT ?_ | refine yR ?_ _)); exact BK831.out⟩, ⟨by (with_reducible repeat (first | refine yS ?_ _ | refine yT ?_ | refine yR ?_ _)); exact BK832.out⟩, ⟨by repeat (first | (with_reducible first | exact HB.out | apply yO | apply yN | apply yP | refine yQ ?_ GE831.out | refine yQ ?_ GE832.out) | exact HB.out)⟩⟩
 case rest =>
  clear HC3
  try clear c1
  try clear p2
  try clear c6
  try clear c6b0
  try clear c6b1
  try clear c7
  try clear c7b0
  try clear c7b1
  try clear c8
  try clear c8b0
  try clear c8b1
  try clear c8b2
  try clear c9
  try clear c12
  try clear c15
  try clear c18
  try clear hcz10_0
  try clear hcz10_1
  try clear hcz10_2
  try clear hcz10_3
  try clear hcz11_0
  try clear hcz11_1
  try clear hcz11_2
  try clear hcz11_3
  try clear hcz13_0
  try clear hcz13_1
  try clear hcz13_2
  try clear hcz13_3
  try clear hcz14_0
  try clear hcz14_1
  try clear hcz14_2
  try clear hcz14_3
  try clear hcz16_0
  try clear hcz16_1
  try clear hcz16_2
  try clear hcz16_3
  try clear hcz17_0
  try clear hcz17_1
  try clear hcz17_2
  try clear hcz17_3
  try clear hcz19_0
  try clear hcz19_1
  try clear hcz19_2
  try clear hcz19_3
  try clear hcz20_0
  try clear hcz20_1
  try clear hcz20_2
  try clear hcz20_3
  try clear hfz10_0
  try clear hfz10_1
  try clear hfz10_2
  try clear hfz10_3
  try clear hfz11_0
  try clear hfz11_1
  try clear hfz11_2
  try clear hfz11_3
  try clear hfz13_0
  try clear hfz13_1
  try clear hfz13_2
  try clear hfz13_3
  try clear hfz14_0
  try clear hfz14_1
  try clear hfz14_2
  try clear hfz14_3
  try clear hfz16_0
  try clear hfz16_1
  try clear hfz16_2
  try clear hfz16_3
  try clear hfz17_0
  try clear hfz17_1
  try clear hfz17_2
  try clear hfz17_3
  try clear hfz19_0
  try clear hfz19_1
  try clear hfz19_2
  try clear hfz19_3
  try clear hfz20_0
  try clear hfz20_1
  try clear hfz20_2
  try clear hfz20_3
  obtain ⟨kq, x36_2, rfl, HA, HJ2, BK831, BK832, HB⟩ := hcut
  cases kq with
  | zero => exact absurd HA.out (by simp [spec_SameRelation.j0])
  | succ kj2 =>
   have H := HA.out
   clear HA
   simp only [spec_SameRelation.j0] at H
   by_cases c21 : x36_2 = true
   ·subst c21
    have H1 : (some false) = some r := by rw [if_pos rfl] at H; exact H
    clear H
    have H := H1
    clear H1
    obtain rfl := zU H
    go_wp2
    repeat (go_quiet (fail); try go_wp2)
    go_ret
    exact ⟨by first | rfl | (simp [errW_none, errW_some] <;> rfl) | (simp [*, errW_none, errW_some] <;> rfl), by repeat (first | (with_reducible first | exact HB.out | apply yO | apply yN | apply yP | refine yQ ?_ GE831.out | refine yQ ?_ GE832.out) | exact HB.out)⟩
   ·replace c21 := Bool.eq_false_iff.mpr c21
    subst c21
    have H1 : (spec_SameRelation.l0 kj2 0 a0_0 a0_1 l0_2 l0_3 a1_0 a1_1 l1_2 l1_3) = some r := by rw [if_neg (show ¬ (false = true) by decide)] at H; exact H
    clear H
    have H := H1
    clear H1
    have H' := yA H
    clear H
    go_wp2
    repeat (go_quiet (fail); try go_wp2)
    go_loopg [5] kj2 (fun kq v5 w' => ∃ (x5_2 : Int), v5 = .int .i64 x5_2 ∧ Aside0 (spec_SameRelation.l0 kq x5_2 a0_0 a0_1 l0_2 l0_3 a1_0 a1_1 l1_2 l1_3 = some r) ∧ Aside0 (kq ≤ kj2) ∧ Aside0 (w'.heap[gb831]? = some (.cells #[.int .i64 a0_0, .int .i64 a0_1, (.slice A0_2 l0_2.length c0_2), (.slice A0_3 l0_3.length c0_3)] 25 (0, 0))) ∧ Aside0 (w'.heap[gb832]? = some (.cells #[.int .i64 a1_0, .int .i64 a1_1, (.slice A1_2 l1_2.length c1_2), (.slice A1_3 l1_3.length c1_3)] 25 (0, 0))) ∧ Aside0 (Below w.heap.size w w'))
    case atStart => exact ⟨(0), (by first | rfl | (simp; done) | (simp [*]; done)), H', ⟨zT _⟩, ⟨by (with_reducible repeat (first | refine yS ?_ _ | refine yT ?_ | refine yR ?_ _)); exact BK831.out⟩, ⟨by (with_reducible repeat (first | refine yS ?_ _ | refine yT ?_ | refine yR ?_ _)); exact BK832.out⟩, ⟨by repeat (first | (with_reducible first | exact HB.out | apply yO | apply yN | apply yP | refine yQ ?_ GE831.out | refine yQ ?_ GE832.out) | exact HB.out)⟩⟩
    case round =>
     clear H'
     try clear c1
     try clear c2
     try clear p2
     try clear c6
     try clear c6b0
     try clear c6b1
     try clear c7
     try clear c7b0
     try clear c7b1
     try clear c8
     try clear c8b0
     try clear c8b1
     try clear c8b2
     try clear c9
     try clear c12
     try clear c15
     try clear c18
     try clear c21
     try clear hcz10_0
     try clear hcz10_1
     try clear hcz10_2
     try clear hcz10_3
     try clear hcz11_0
     try clear hcz11_1
     try clear hcz11_2
     try clear hcz11_3
     try clear hcz13_0
     try clear hcz13_1
     try clear hcz13_2
     try clear hcz13_3
     try clear hcz14_0
     try clear hcz14_1
     try clear hcz14_2
     try clear hcz14_3
     try clear hcz16_0
     try clear hcz16_1
     try clear hcz16_2
     try clear hcz16_3
     try clear hcz17_0
     try clear hcz17_1
     try clear hcz17_2
     try clear hcz17_3
     try clear hcz19_0
     try clear hcz19_1
     try clear hcz19_2
     try clear hcz19_3
     try clear hcz20_0
     try clear hcz20_1
     try clear hcz20_2
     try clear hcz20_3
     try clear hfz10_0
     try clear hfz10_1
     try clear hfz10_2
     try clear hfz10_3
     try clear hfz11_0
     try clear hfz11_1
     try clear hfz11_2
     try clear hfz11_3
     try clear hfz13_0
     try clear hfz13_1
     try clear hfz13_2
     try clear hfz13_3
     try clear hfz14_0
     try clear hfz14_1
     try clear hfz14_2
     try clear hfz14_3
     try clear hfz16_0
     try clear hfz16_1
     try clear hfz16_2
     try clear hfz16_3
     try clear hfz17_0
     try clear hfz17_1
     try clear hfz17_2
     try clear hfz17_3
     try clear hfz19_0
     try clear hfz19_1
     try clear hfz19_2
     try clear hfz19_3
     try clear hfz20_0
     try clear hfz20_1
     try clear hfz20_2
     try clear hfz20_3
     try clear p2
     obtain ⟨x5_2, rfl, HA, HK2, BK831, BK832, HB⟩ := hrel
     cases gk with
     | zero => exact absurd HA.out (by simp [spec_SameRelation.l0])
     | succ k2 =>
      have H := HA.out
      clear HA
      simp only [spec_SameRelation.l0] at H
      by_cases c22 : x5_2 < (l0_2.length : Int)
      ·rw [if_pos c22] at H
       have c22b0 : decide (x5_2 < (l0_2.length : Int)) = true := zH c22
       clear c22
       by_cases c23 : 0 ≤ x5_2
       ·rw [if_pos c23] at H
        have c23b0 : decide (0 ≤ x5_2) = true := zH c23
        clear c23
        by_cases c24 : x5_2 < (l1_2.length : Int)
        ·rw [if_pos c24] at H
         have c24b0 : decide (x5_2 < (l1_2.length : Int)) = true := zH c24
         clear c24
         replace H := Option.bind_eq_some_iff.mp H
         obtain ⟨t835, A250, H⟩ := H
         replace H : (if t835 = true then (spec_SameRelation.l0 k2 (wrap64 (x5_2 + 1)) a0_0 a0_1 l0_2 l0_3 a1_0 a1_1 l1_2 l1_3) else (some false)) = some r := H
         have A25 := yA A250
         clear A250
         by_cases c26 : t835 = true
         ·subst c26
          have H1 : (spec_SameRelation.l0 k2 (wrap64 (x5_2 + 1)) a0_0 a0_1 l0_2 l0_3 a1_0 a1_1 l1_2 l1_3) = some r := by rw [if_pos rfl] at H; exact H
          clear H
          have H := H1
          clear H1
          have H' := yA H
          clear H
          have hnb27 := NB831_832.out
          have hnc27 := NB832_831.out
          have hcz28_0 : wr.cell? ⟨gb831, 0, none⟩ = some (.int .i64 a0_0) := (yV BK831.out 0).trans rfl
          have hcz28_1 : wr.cell? ⟨gb831, 1, none⟩ = some (.int .i64 a0_1) := (yV BK831.out 1).trans rfl
          have hcz28_2 : wr.cell? ⟨gb831, 2, none⟩ = some (.slice A0_2 l0_2.length c0_2) := (yV BK831.out 2).trans rfl
          have hcz28_3 : wr.cell? ⟨gb831, 3, none⟩ = some (.slice A0_3 l0_3.length c0_3) := (yV BK831.out 3).trans rfl
          have hfz28_0 := yW BK831.out 0
          have hfz28_1 := yW BK831.out 1
          have hfz28_2 := yW BK831.out 2
          have hfz28_3 := yW BK831.out 3
          have p833 : 0 ≤ (x5_2 : Int) := zG (by first | (with_reducible assumption) | assumption)
          have q833 : x5_2 < (l0_2.length : Int) := zG (by first | (with_reducible assumption) | assumption)
          obtain ⟨ad833, A833_0, c833_0, e833, hx833_0, hl833_0, hi833_0⟩ := at_L1 HR0_2.out x5_2 p833 q833
          cases e833
          try replace hx833_0 := (HB.out.cell (zE w _ hx833_0)).trans hx833_0
          have HR833_0 := yA hi833_0
          have HC833_0 := yA hl833_0
          clear hi833_0 hl833_0
          replace p833 := eq_true p833
          replace q833 := eq_true q833
          have hcz29_0 : wr.cell? ⟨gb832, 0, none⟩ = some (.int .i64 a1_0) := (yV BK832.out 0).trans rfl
          have hcz29_1 : wr.cell? ⟨gb832, 1, none⟩ = some (.int .i64 a1_1) := (yV BK832.out 1).trans rfl
          have hcz29_2 : wr.cell? ⟨gb832, 2, none⟩ = some (.slice A1_2 l1_2.length c1_2) := (yV BK832.out 2).trans rfl
          have hcz29_3 : wr.cell? ⟨gb832, 3, none⟩ = some (.slice A1_3 l1_3.length c1_3) := (yV BK832.out 3).trans rfl
          have hfz29_0 := yW BK832.out 0
          have hfz29_1 := yW BK832.out 1
          have hfz29_2 := yW BK832.out 2
          have hfz29_3 := yW BK832.out 3
          have p834 : 0 ≤ (x5_2 : Int) := zG (by first | (with_reducible assumption) | assumption)
          have q834 : x5_2 < (l1_2.length : Int) := zG (by first | (with_reducible assumption) | assumption)
          obtain ⟨ad834, A834_0, c834_0, e834, hx834_0, hl834_0, hi834_0⟩ := at_L1 HR1_2.out x5_2 p834 q834
          cases e834
          try replace hx834_0 := (HB.out.cell (zE w _ hx834_0)).trans hx834_0
          have HR834_0 := yA hi834_0
          have HC834_0 := yA hl834_0
          clear hi834_0 hl834_0
          replace p834 := eq_true p834
          replace q834 := eq_true q834
          go_wp2_with (first | (go_at_call 98; (with_reducible refine (spec_l3Same.calls k2 _ _ (rd_L1 l0_2 x5_2) _ _ (rd_L1 l1_2 x5_2) true _ ?side1 ?side2 ?side3 ?side4 A25.out).mono ?_); (case side1 => exact mC (yM HR833_0.out HB.out)); (case side2 => exact HC833_0.out); (case side3 => exact mC (yM HR834_0.out HB.out)); (case side4 => exact HC834_0.out); rintro e w' ⟨rfl, ⟨nd, rfl⟩⟩; (try first | exact ⟨rfl, _, World.drewN_drewN _ _ _⟩ | exact ⟨rfl, _, Eq.trans (World.drewN_drewN _ _ _) (congrArg (World.drewN _) (Nat.add_assoc _ _ _))⟩)))
          repeat (go_quiet (first | (go_at_call 98; (with_reducible refine (spec_l3Same.calls k2 _ _ (rd_L1 l0_2 x5_2) _ _ (rd_L1 l1_2 x5_2) true _ ?side1 ?side2 ?side3 ?side4 A25.out).mono ?_); (case side1 => exact mC (yM HR833_0.out HB.out)); (case side2 => exact HC833_0.out); (case side3 => exact mC (yM HR834_0.out HB.out)); (case side4 => exact HC834_0.out); rintro e w' ⟨rfl, ⟨nd, rfl⟩⟩; (try first | exact ⟨rfl, _, World.drewN_drewN _ _ _⟩ | exact ⟨rfl, _, Eq.trans (World.drewN_drewN _ _ _) (congrArg (World.drewN _) (Nat.add_assoc _ _ _))⟩))); try go_wp2_with (first | (go_at_call 98; (with_reducible refine (spec_l3Same.calls k2 _ _ (rd_L1 l0_2 x5_2) _ _ (rd_L1 l1_2 x5_2) true _ ?side1 ?side2 ?side3 ?side4 A25.out).mono ?_); (case side1 => exact mC (yM HR833_0.out HB.out)); (case side2 => exact HC833_0.out); (case side3 => exact mC (yM HR834_0.out HB.out)); (case side4 => exact HC834_0.out); rintro e w' ⟨rfl, ⟨nd, rfl⟩⟩; (try first | exact ⟨rfl, _, World.drewN_drewN _ _ _⟩ | exact ⟨rfl, _, Eq.trans (World.drewN_drewN _ _ _) (congrArg (World.drewN _) (Nat.add_assoc _ _ _))⟩))))
          go_roundg k2
          case measure => have := HJ2.out; have := HK2.out; omega
          case rel => exact ⟨(wrap64 (x5_2 + 1)), (by first | rfl | (simp; done) | (simp [*]; done)), H', ⟨by have := HJ2.out; have := HK2.out; omega⟩, ⟨by (with_reducible repeat (first | refine yS ?_ _ | refine yT ?_ | refine yR ?_ _)); exact BK831.out⟩, ⟨by (with_reducible repeat (first | refine yS ?_ _ | refine yT ?_ | refine yR ?_ _)); exact BK832.out⟩, ⟨by repeat (first | (with_reducible first | exact HB.out | apply yO | apply yN | apply yP | refine yQ ?_ GE831.out | refine yQ ?_ GE832.out) | exact HB.out)⟩⟩
         ·replace c26 := Bool.eq_false_iff.mpr c26
          subst c26
          have H1 : (some false) = some r := by rw [if_neg (show ¬ (false = true) by decide)] at H; exact H
          clear H
          have H := H1
          clear H1
          obtain rfl := zU H
          have hnb30 := NB831_832.out
          have hnc30 := NB832_831.out
          have hcz31_0 : wr.cell? ⟨gb831, 0, none⟩ = some (.int .i64 a0_0) := (yV BK831.out 0).trans rfl
          have hcz31_1 : wr.cell? ⟨gb831, 1, none⟩ = some (.int .i64 a0_1) := (yV BK831.out 1).trans rfl
          have hcz31_2 : wr.cell? ⟨gb831, 2, none⟩ = some (.slice A0_2 l0_2.length c0_2) := (yV BK831.out 2).trans rfl
          have hcz31_3 : wr.cell? ⟨gb831, 3, none⟩ = some (.slice A0_3 l0_3.length c0_3) := (yV BK831.out 3).trans rfl
          have hfz31_0 := yW BK831.out 0
          have hfz31_1 := yW BK831.out 1
          have hfz31_2 := yW BK831.out 2
          have hfz31_3 := yW BK831.out 3
          have p833 : 0 ≤ (x5_2 : Int) := zG (by first | (with_reducible assumption) | assumption)
          have q833 : x5_2 < (l0_2.length : Int) := zG (by first | (with_reducible assumption) | assumption)
          obtain ⟨ad833, A833_0, c833_0, e833, hx833_0, hl833_0, hi833_0⟩ := at_L1 HR0_2.out x5_2 p833 q833
          cases e833
          try replace hx833_0 := (HB.out.cell (zE w _ hx833_0)).trans hx833_0
          have HR833_0 := yA hi833_0
          have HC833_0 := yA hl833_0
          clear hi833_0 hl833_0
          replace p833 := eq_true p833
          replace q833 := eq_true q833
          have hcz32_0 : wr.cell? ⟨gb832, 0, none⟩ = some (.int .i64 a1_0) := (yV BK832.out 0).trans rfl
          have hcz32_1 : wr.cell? ⟨gb832, 1, none⟩ = some (.int .i64 a1_1) := (yV BK832.out 1).trans rfl
          have hcz32_2 : wr.cell? ⟨gb832, 2, none⟩ = some (.slice A1_2 l1_2.length c1_2) := (yV BK832.out 2).trans rfl
          have hcz32_3 : wr.cell? ⟨gb832, 3, none⟩ = some (.slice A1_3 l1_3.length c1_3) := (yV BK832.out 3).trans rfl
          have hfz32_0 := yW BK832.out 0
          have hfz32_1 := yW BK832.out 1
          have hfz32_2 := yW BK832.out 2
          have hfz32_3 := yW BK832.out 3
          have p834 : 0 ≤ (x5_2 : Int) := zG (by first | (with_reducible assumption) | assumption)
          have q834 : x5_2 < (l1_2.length : Int) := zG (by first | (with_reducible assumption) | assumption)
          obtain ⟨ad834, A834_0, c834_0, e834, hx834_0, hl834_0, hi834_0⟩ := at_L1 HR1_2.out x5_2 p834 q834
          cases e834
          try replace hx834_0 := (HB.out.cell (zE w _ hx834_0)).trans hx834_0
          have HR834_0 := yA hi834_0
          have HC834_0 := yA hl834_0
          clear hi834_0 hl834_0
          replace p834 := eq_true p834
          replace q834 := eq_true q834
          go_wp2_with (first | (go_at_call 98; (with_reducible refine (spec_l3Same.calls k2 _ _ (rd_L1 l0_2 x5_2) _ _ (rd_L1 l1_2 x5_2) false _ ?side1 ?side2 ?side3 ?side4 A25.out).mono ?_); (case side1 => exact mC (yM HR833_0.out HB.out)); (case side2 => exact HC833_0.out); (case side3 => exact mC (yM HR834_0.out HB.out)); (case side4 => exact HC834_0.out); rintro e w' ⟨rfl, ⟨nd, rfl⟩⟩; (try first | exact ⟨rfl, _, World.drewN_drewN _ _ _⟩ | exact ⟨rfl, _, Eq.trans (World.drewN_drewN _ _ _) (congrArg (World.drewN _) (Nat.add_assoc _ _ _))⟩)))
          repeat (go_quiet (first | (go_at_call 98; (with_reducible refine (spec_l3Same.calls k2 _ _ (rd_L1 l0_2 x5_2) _ _ (rd_L1 l1_2 x5_2) false _ ?side1 ?side2 ?side3 ?side4 A25.out).mono ?_); (case side1 => exact mC (yM HR833_0.out HB.out)); (case side2 => exact HC833_0.out); (case side3 => exact mC (yM HR834_0.out HB.out)); (case side4 => exact HC834_0.out); rintro e w' ⟨rfl, ⟨nd, rfl⟩⟩; (try first | exact ⟨rfl, _, World.drewN_drewN _ _ _⟩ | exact ⟨rfl, _, Eq.trans (World.drewN_drewN _ _ _) (congrArg (World.drewN _) (Nat.add_assoc _ _ _))⟩))); try go_wp2_with (first | (go_at_call 98; (with_reducible refine (spec_l3Same.calls k2 _ _ (rd_L1 l0_2 x5_2) _ _ (rd_L1 l1_2 x5_2) false _ ?side1 ?side2 ?side3 ?side4 A25.out).mono ?_); (case side1 => exact mC (yM HR833_0.out HB.out)); (case side2 => exact HC833_0.out); (case side3 => exact mC (yM HR834_0.out HB.out)); (case side4 => exact HC834_0.out); rintro e w' ⟨rfl, ⟨nd, rfl⟩⟩; (try first | exact ⟨rfl, _, World.drewN_drewN _ _ _⟩ | exact ⟨rfl, _, Eq.trans (World.drewN_drewN _ _ _) (congrArg (World.drewN _) (Nat.add_assoc _ _ _))⟩))))
          go_ret
          exact ⟨by first | rfl | (simp [errW_none, errW_some] <;> rfl) | (simp [*, errW_none, errW_some] <;> rfl), by repeat (first | (with_reducible first | exact HB.out | apply yO | apply yN | apply yP | refine yQ ?_ GE831.out | refine yQ ?_ GE832.out) | exact HB.out)⟩
        ·rw [if_neg c24] at H
         exact absurd H (by simp)
       ·rw [if_neg c23] at H
        exact absurd H (by simp)
      ·rw [if_neg c22] at H
       have c22b0 : decide (x5_2 < (l0_2.length : Int)) = false := decide_eq_false c22
       clear c22
       have H' := yA H
       clear H
       have hnb33 := NB831_832.out
       have hnc33 := NB832_831.out
       have hcz34_0 : wr.cell? ⟨gb831, 0, none⟩ = some (.int .i64 a0_0) := (yV BK831.out 0).trans rfl
       have hcz34_1 : wr.cell? ⟨gb831, 1, none⟩ = some (.int .i64 a0_1) := (yV BK831.out 1).trans rfl
       have hcz34_2 : wr.cell? ⟨gb831, 2, none⟩ = some (.slice A0_2 l0_2.length c0_2) := (yV BK831.out 2).trans rfl
       have hcz34_3 : wr.cell? ⟨gb831, 3, none⟩ = some (.slice A0_3 l0_3.length c0_3) := (yV BK831.out 3).trans rfl
       have hfz34_0 := yW BK831.out 0
       have hfz34_1 := yW BK831.out 1
       have hfz34_2 := yW BK831.out 2
       have hfz34_3 := yW BK831.out 3
       go_wp2
       repeat (go_quiet (fail); try go_wp2)
       go_loopg [6] k2 (fun kq v6 w' => ∃ (x6_3 : Int), v6 = .int .i64 x6_3 ∧ Aside0 (spec_SameRelation.l1 kq x6_3 a0_0 a0_1 l0_2 l0_3 a1_0 a1_1 l1_2 l1_3 = some r) ∧ Aside0 (kq ≤ k2) ∧ Aside0 (w'.heap[gb831]? = some (.cells #[.int .i64 a0_0, .int .i64 a0_1, (.slice A0_2 l0_2.length c0_2), (.slice A0_3 l0_3.length c0_3)] 25 (0, 0))) ∧ Aside0 (w'.heap[gb832]? = some (.cells #[.int .i64 a1_0, .int .i64 a1_1, (.slice A1_2 l1_2.length c1_2), (.slice A1_3 l1_3.length c1_3)] 25 (0, 0))) ∧ Aside0 (Below w.heap.size w w'))
       case atStart => exact ⟨(0), (by first | rfl | (simp; done) | (simp [*]; done)), H', ⟨zT _⟩, ⟨by (with_reducible repeat (first | refine yS ?_ _ | refine yT ?_ | refine yR ?_ _)); exact BK831.out⟩, ⟨by (with_reducible repeat (first | refine yS ?_ _ | refine yT ?_ | refine yR ?_ _)); exact BK832.out⟩, ⟨by repeat (first | (with_reducible first | exact HB.out | apply yO | apply yN | apply yP | refine yQ ?_ GE831.out | refine yQ ?_ GE832.out) | exact HB.out)⟩⟩
       case round =>
        clear H'
        try clear c1
        try clear c2
        try clear p2
        try clear c3
        try clear c6
        try clear c6b0
        try clear c6b1
        try clear p6
        try clear c7
        try clear c7b0
        try clear c7b1
        try clear c8
        try clear c8b0
        try clear c8b1
        try clear c8b2
        try clear p8
        try clear q8
        try clear hx8
        try clear c9
        try clear c12
        try clear c15
        try clear c18
        try clear c21
        try clear c22
        try clear c22b0
        try clear c23
        try clear c23b0
        try clear c24
        try clear c24b0
        try clear c26
        try clear c27
        try clear c30
        try clear c33
        try clear hcz10_0
        try clear hcz10_1
        try clear hcz10_2
        try clear hcz10_3
        try clear hcz11_0
        try clear hcz11_1
        try clear hcz11_2
        try clear hcz11_3
        try clear hcz13_0
        try clear hcz13_1
        try clear hcz13_2
        try clear hcz13_3
        try clear hcz14_0
        try clear hcz14_1
        try clear hcz14_2
        try clear hcz14_3
        try clear hcz16_0
        try clear hcz16_1
        try clear hcz16_2
        try clear hcz16_3
        try clear hcz17_0
        try clear hcz17_1
        try clear hcz17_2
        try clear hcz17_3
        try clear hcz19_0
        try clear hcz19_1
        try clear hcz19_2
        try clear hcz19_3
        try clear hcz20_0
        try clear hcz20_1
        try clear hcz20_2
        try clear hcz20_3
        try clear hcz28_0
        try clear hcz28_1
        try clear hcz28_2
        try clear hcz28_3
        try clear hcz29_0
        try clear hcz29_1
        try clear hcz29_2
        try clear hcz29_3
        try clear hcz31_0
        try clear hcz31_1
        try clear hcz31_2
        try clear hcz31_3
        try clear hcz32_0
        try clear hcz32_1
        try clear hcz32_2
        try clear hcz32_3
        try clear hcz34_0
        try clear hcz34_1
        try clear hcz34_2
        try clear hcz34_3
        try clear hfz10_0
        try clear hfz10_1
        try clear hfz10_2
        try clear hfz10_3
        try clear hfz11_0
        try clear hfz11_1
        try clear hfz11_2
        try clear hfz11_3
        try clear hfz13_0
        try clear hfz13_1
        try clear hfz13_2
        try clear hfz13_3
        try clear hfz14_0
        try clear hfz14_1
        try clear hfz14_2
        try clear hfz14_3
        try clear hfz16_0
        try clear hfz16_1
        try clear hfz16_2
        try clear hfz16_3
        try clear hfz17_0
        try clear hfz17_1
        try clear hfz17_2
        try clear hfz17_3
        try clear hfz19_0
        try clear hfz19_1
        try clear hfz19_2
        try clear hfz19_3
        try clear hfz20_0
        try clear hfz20_1
        try clear hfz20_2
        try clear hfz20_3
        try clear hfz28_0
        try clear hfz28_1
        try clear hfz28_2
        try clear hfz28_3
        try clear hfz29_0
        try clear hfz29_1
        try clear hfz29_2
        try clear hfz29_3
        try clear hfz31_0
        try clear hfz31_1
        try clear hfz31_2
        try clear hfz31_3
        try clear hfz32_0
        try clear hfz32_1
        try clear hfz32_2
        try clear hfz32_3
        try clear hfz34_0
        try clear hfz34_1
        try clear hfz34_2
        try clear hfz34_3
        try clear hx833_0
        try clear hx834_0
        try clear p2
        try clear p833
        try clear p834
        try clear q833
        try clear q834
        obtain ⟨x6_3, rfl, HA, HK3, BK831, BK832, HB⟩ := hrel
        cases gk with
        | zero => exact absurd HA.out (by simp [spec_SameRelation.l1])
        | succ k3 =>
         have H := HA.out
         clear HA
         simp only [spec_SameRelation.l1] at H
         by_cases c35 : x6_3 < (l0_3.length : Int)
         ·rw [if_pos c35] at H
          have c35b0 : decide (x6_3 < (l0_3.length : Int)) = true := zH c35
          clear c35
          by_cases c36 : 0 ≤ x6_3
          ·rw [if_pos c36] at H
           have c36b0 : decide (0 ≤ x6_3) = true := zH c36
           clear c36
           by_cases c37 : x6_3 < (l1_3.length : Int)
           ·rw [if_pos c37] at H
            have c37b0 : decide (x6_3 < (l1_3.length : Int)) = true := zH c37
            clear c37
            by_cases c38 : ((rdOf false l0_3 x6_3) != (rdOf false l1_3 x6_3)) = true
            ·rw [if_pos c38] at H
             have c38b0 : ((rdOf false l0_3 x6_3) != (rdOf false l1_3 x6_3)) = true := c38
             (try (have c38b1 : decide ((rdOf false l0_3 x6_3) = (rdOf false l1_3 x6_3)) = false := by simpa using c38))
             (try (have c38b2 : ((rdOf false l0_3 x6_3) == (rdOf false l1_3 x6_3)) = false := by simpa using c38))
             (try (have c38b3 : ¬ ((rdOf false l0_3 x6_3) = (rdOf false l1_3 x6_3)) := by simpa using c38))
             clear c38
             obtain rfl := zU H
             have hnb39 := NB831_832.out
             have hnc39 := NB832_831.out
             have hcz40_0 : wr.cell? ⟨gb831, 0, none⟩ = some (.int .i64 a0_0) := (yV BK831.out 0).trans rfl
             have hcz40_1 : wr.cell? ⟨gb831, 1, none⟩ = some (.int .i64 a0_1) := (yV BK831.out 1).trans rfl
             have hcz40_2 : wr.cell? ⟨gb831, 2, none⟩ = some (.slice A0_2 l0_2.length c0_2) := (yV BK831.out 2).trans rfl
             have hcz40_3 : wr.cell? ⟨gb831, 3, none⟩ = some (.slice A0_3 l0_3.length c0_3) := (yV BK831.out 3).trans rfl
             have hfz40_0 := yW BK831.out 0
             have hfz40_1 := yW BK831.out 1
             have hfz40_2 := yW BK831.out 2
             have hfz40_3 := yW BK831.out 3
             have p836 : 0 ≤ (x6_3 : Int) := zG (by first | (with_reducible assumption) | assumption)
             have q836 : x6_3 < (l0_3.length : Int) := zG (by first | (with_reducible assumption) | assumption)
             obtain ⟨ad836, e836, hx836_0⟩ := Kd.at_bool HR0_3.out x6_3 p836 q836
             cases e836
             try replace hx836_0 := (HB.out.cell (zE w _ hx836_0)).trans hx836_0
             replace p836 := eq_true p836
             replace q836 := eq_true q836
             have hcz41_0 : wr.cell? ⟨gb832, 0, none⟩ = some (.int .i64 a1_0) := (yV BK832.out 0).trans rfl
             have hcz41_1 : wr.cell? ⟨gb832, 1, none⟩ = some (.int .i64 a1_1) := (yV BK832.out 1).trans rfl
             have hcz41_2 : wr.cell? ⟨gb832, 2, none⟩ = some (.slice A1_2 l1_2.length c1_2) := (yV BK832.out 2).trans rfl
             have hcz41_3 : wr.cell? ⟨gb832, 3, none⟩ = some (.slice A1_3 l1_3.length c1_3) := (yV BK832.out 3).trans rfl
             have hfz41_0 := yW BK832.out 0
             have hfz41_1 := yW BK832.out 1
             have hfz41_2 := yW BK832.out 2
             have hfz41_3 := yW BK832.out 3
             have p837 : 0 ≤ (x6_3 : Int) := zG (by first | (with_reducible assumption) | assumption)
             have q837 : x6_3 < (l1_3.length : Int) := zG (by first | (with_reducible assumption) | assumption)
             obtain ⟨ad837, e837, hx837_0⟩ := Kd.at_bool HR1_3.out x6_3 p837 q837
             cases e837
             try replace hx837_0 := (HB.out.cell (zE w _ hx837_0)).trans hx837_0
             replace p837 := eq_true p837
             replace q837 := eq_true q837
             go_wp2
             repeat (go_quiet (fail); try go_wp2)
             go_ret
             exact ⟨by first | rfl | (simp [errW_none, errW_some] <;> rfl) | (simp [*, errW_none, errW_some] <;> rfl), by repeat (first | (with_reducible first | exact HB.out | apply yO | apply yN | apply yP | refine yQ ?_ GE831.out | refine yQ ?_ GE832.out) | exact HB.out)⟩
            ·rw [if_neg c38] at H
             have c38b0 : ((rdOf false l0_3 x6_3) != (rdOf false l1_3 x6_3)) = false := by simpa using c38
             (try (have c38b1 : decide ((rdOf false l0_3 x6_3) = (rdOf false l1_3 x6_3)) = true := by simpa using c38))
             (try (have c38b2 : ((rdOf false l0_3 x6_3) == (rdOf false l1_3 x6_3)) = true := by simpa using c38))
             clear c38
             have H' := yA H
             clear H
             have hnb42 := NB831_832.out
             have hnc42 := NB832_831.out
             have hcz43_0 : wr.cell? ⟨gb831, 0, none⟩ = some (.int .i64 a0_0) := (yV BK831.out 0).trans rfl
             have hcz43_1 : wr.cell? ⟨gb831, 1, none⟩ = some (.int .i64 a0_1) := (yV BK831.out 1).trans rfl
             have hcz43_2 : wr.cell? ⟨gb831, 2, none⟩ = some (.slice A0_2 l0_2.length c0_2) := (yV BK831.out 2).trans rfl
             have hcz43_3 : wr.cell? ⟨gb831, 3, none⟩ = some (.slice A0_3 l0_3.length c0_3) := (yV BK831.out 3).trans rfl
             have hfz43_0 := yW BK831.out 0
             have hfz43_1 := yW BK831.out 1
             have hfz43_2 := yW BK831.out 2
             have hfz43_3 := yW BK831.out 3
             have p836 : 0 ≤ (x6_3 : Int) := zG (by first | (with_reducible assumption) | assumption)
             have q836 : x6_3 < (l0_3.length : Int) := zG (by first | (with_reducible assumption) | assumption)
             obtain ⟨ad836, e836, hx836_0⟩ := Kd.at_bool HR0_3.out x6_3 p836 q836
             cases e836
             try replace hx836_0 := (HB.out.cell (zE w _ hx836_0)).trans hx836_0
             replace p836 := eq_true p836
             replace q836 := eq_true q836
             have hcz44_0 : wr.cell? ⟨gb832, 0, none⟩ = some (.int .i64 a1_0) := (yV BK832.out 0).trans rfl
             have hcz44_1 : wr.cell? ⟨gb832, 1, none⟩ = some (.int .i64 a1_1) := (yV BK832.out 1).trans rfl
             have hcz44_2 : wr.cell? ⟨gb832, 2, none⟩ = some (.slice A1_2 l1_2.length c1_2) := (yV BK832.out 2).trans rfl
             have hcz44_3 : wr.cell? ⟨gb832, 3, none⟩ = some (.slice A1_3 l1_3.length c1_3) := (yV BK832.out 3).trans rfl
             have hfz44_0 := yW BK832.out 0
             have hfz44_1 := yW BK832.out 1
             have hfz44_2 := yW BK832.out 2
             have hfz44_3 := yW BK832.out 3
             have p837 : 0 ≤ (x6_3 : Int) := zG (by first | (with_reducible assumption) | assumption)
             have q837 : x6_3 < (l1_3.length : Int) := zG (by first | (with_reducible assumption) | assumption)
             obtain ⟨ad837, e837, hx837_0⟩ := Kd.at_bool HR1_3.out x6_3 p837 q837
             cases e837
             try replace hx837_0 := (HB.out.cell (zE w _ hx837_0)).trans hx837_0
             replace p837 := eq_true p837
             replace q837 := eq_true q837
             go_wp2
             repeat (go_quiet (fail); try go_wp2)
             go_roundg k3
             case measure => have := HJ2.out; have := HK2.out; have := HK3.out; omega
             case rel => exact ⟨(wrap64 (x6_3 + 1)), (by first | rfl | (simp; done) | (simp [*]; done)), H', ⟨by have := HJ2.out; have := HK2.out; have := HK3.out; omega⟩, ⟨by (with_reducible repeat (first | refine yS ?_ _ | refine yT ?_ | refine yR ?_ _)); exact BK831.out⟩, ⟨by (with_reducible repeat (first | refine yS ?_ _ | refine yT ?_ | refine yR ?_ _)); exact BK832.out⟩, ⟨by repeat (first | (with_reducible first | exact HB.out | apply yO | apply yN | apply yP | refine yQ ?_ GE831.out | refine yQ ?_ GE832.out) | exact HB.out)⟩⟩
           ·rw [if_neg c37] at H
            exact absurd H (by simp)
          ·rw [if_neg c36] at H
           exact absurd H (by simp)
         ·rw [if_neg c35] at H
          have c35b0 : decide (x6_3 < (l0_3.length : Int)) = false := decide_eq_false c35
          clear c35
          obtain rfl := zU H
          have hnb45 := NB831_832.out
          have hnc45 := NB832_831.out
          have hcz46_0 : wr.cell? ⟨gb831, 0, none⟩ = some (.int .i64 a0_0) := (yV BK831.out 0).trans rfl
          have hcz46_1 : wr.cell? ⟨gb831, 1, none⟩ = some (.int .i64 a0_1) := (yV BK831.out 1).trans rfl
          have hcz46_2 : wr.cell? ⟨gb831, 2, none⟩ = some (.slice A0_2 l0_2.length c0_2) := (yV BK831.out 2).trans rfl
          have hcz46_3 : wr.cell? ⟨gb831, 3, none⟩ = some (.slice A0_3 l0_3.length c0_3) := (yV BK831.out 3).trans rfl
          have hfz46_0 := yW BK831.out 0
          have hfz46_1 := yW BK831.out 1
          have hfz46_2 := yW BK831.out 2
          have hfz46_3 := yW BK831.out 3
          go_wp2
          repeat (go_quiet (fail); try go_wp2)
          go_ret
          exact ⟨by first | rfl | (simp [errW_none, errW_some] <;> rfl) | (simp [*, errW_none, errW_some] <;> rfl), by repeat (first | (with_reducible first | exact HB.out | apply yO | apply yN | apply yP | refine yQ ?_ GE831.out | refine yQ ?_ GE832.out) | exact HB.out)⟩

end Go.Proofs.Ytgopcliohchkmaa.Q
