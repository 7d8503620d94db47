-- written by a program of this session
-- compact
-- shrunk
import Derived.Test.YtgopcliohchkmaaQ0
import Derived.Test.YtgopcliohchkmaaQ213
import Derived.Test.YtgopcliohchkmaaQ4
import Derived.Test.YtgopcliohchkmaaQ41
import Derived.Test.YtgopcliohchkmaaQ5
import Derived.Test.YtgopcliohchkmaaQ55
import Derived.Test.YtgopcliohchkmaaQ80
namespace Go.Proofs.Ytgopcliohchkmaa.Q
open Go.RowKit Go.Proofs.YtgopcliohchkmaaW.PrintWords Go.Proofs.YtgopcliohchkmaaW.PrintLast Go.Proofs.YtgopcliohchkmaaW.PrintMore
set_option linter.unusedVariables false
set_option linter.unusedSimpArgs false

/-! ### impl_RenameTracks: function 50 -/
mutual
def impl_RenameTracks.j0 : Nat → List Int → Int → Bool → Int → Int → List (List Int) → List Bool → Option (Int × Int × (List (List Int)) × List Bool × Bool)
 | 0, _, _, _, _, _, _, _ => none
 | k + 1, x1, x2, x36, x506000, x506001, x506002, x506003 => if x36 = true then (some (0, 0, ([] : List (List Int)), ([] : List Bool), false)) else (impl_RenameTracks.l0 k x1 x2 x1 (x1.length : Int) 0 x506000 x506001 x506002 x506003)
def impl_RenameTracks.l0 : Nat → List Int → Int → List Int → Int → Int → Int → Int → List (List Int) → List Bool → Option (Int × Int × (List (List Int)) × List Bool × Bool)
 | 0, _, _, _, _, _, _, _, _, _ => none
 | k + 1, x1, x2, x38, x39, x40, x506000, x506001, x506002, x506003 => if x40 < x39 then (if 0 ≤ x40 then (if x40 < (x38.length : Int) then (if (rd x38 x40) < 0 then (some (0, 0, ([] : List (List Int)), ([] : List Bool), false)) else (if (rd x38 x40) ≥ x2 then (some (0, 0, ([] : List (List Int)), ([] : List Bool), false)) else (impl_RenameTracks.l0 k x1 x2 x38 x39 (wrap64 (x40 + 1)) x506000 x506001 x506002 x506003))) else (none)) else (none)) else ((slices_Clone_bool_bool.f x506003).bind fun t509 => (impl_RenameTracks.l1 k x1 x2 x506002 (x506002.length : Int) 0 x506000 x506001 x506002 x506003 x506000 x2 ([] : List (List Int)) t509))
def impl_RenameTracks.l1 : Nat → List Int → Int → List (List Int) → Int → Int → Int → Int → List (List Int) → List Bool → Int → Int → List (List Int) → List Bool → Option (Int × Int × (List (List Int)) × List Bool × Bool)
 | 0, _, _, _, _, _, _, _, _, _, _, _, _, _ => none
 | k + 1, x1, x2, x61, x62, x63, x506000, x506001, x506002, x506003, x513000, x513001, x513002, x513003 => if x63 < x62 then (if 0 ≤ x63 then (if x63 < (x61.length : Int) then ((impl_power.f k x506000 x2).bind fun t525 => (impl_RenameTracks.l2 k x1 x2 (rd_L1 x61 x63) (([] : List Int)) x61 x62 x63 t525 0 x506000 x506001 x506002 x506003 x513000 x513001 x513002 x513003)) else (none)) else (none)) else ((impl_Relation_reduced.f k x513000 x513001 x513002 x513003).bind fun bt513 => (some (bt513.1, bt513.2.1, bt513.2.2.1, bt513.2.2.2, true)))
def impl_RenameTracks.l2 : Nat → List Int → Int → List Int → List Int → List (List Int) → Int → Int → Int → Int → Int → Int → List (List Int) → List Bool → Int → Int → List (List Int) → List Bool → Option (Int × Int × (List (List Int)) × List Bool × Bool)
 | 0, _, _, _, _, _, _, _, _, _, _, _, _, _, _, _, _, _ => none
 | k + 1, x1, x2, x12, x13, x61, x62, x63, x71, x72, x506000, x506001, x506002, x506003, x513000, x513001, x513002, x513003 => if x72 < x71 then ((impl_tracksOf.f k x506000 x2 x72).bind fun t529 => (impl_RenameTracks.l3 k x1 x2 x12 x13 t529 (([] : List Int)) x61 x62 x63 x71 x72 x1 (x1.length : Int) 0 x506000 x506001 x506002 x506003 x513000 x513001 x513002 x513003)) else (if x513002.length < 5864062014805 then (impl_RenameTracks.l1 k x1 x2 x61 x62 (wrap64 (x63 + 1)) x506000 x506001 x506002 x506003 x513000 x513001 (x513002 ++ [x13]) x513003) else (none))
def impl_RenameTracks.l3 : Nat → List Int → Int → List Int → List Int → List Int → List Int → List (List Int) → Int → Int → Int → Int → List Int → Int → Int → Int → Int → List (List Int) → List Bool → Int → Int → List (List Int) → List Bool → Option (Int × Int × (List (List Int)) × List Bool × Bool)
 | 0, _, _, _, _, _, _, _, _, _, _, _, _, _, _, _, _, _, _, _, _, _, _ => none
 | k + 1, x1, x2, x12, x13, x15, x16, x61, x62, x63, x71, x72, x81, x82, x83, x506000, x506001, x506002, x506003, x513000, x513001, x513002, x513003 => if x83 < x82 then (if 0 ≤ x83 then (if x83 < (x81.length : Int) then (if 0 ≤ (rd x81 x83) then (if (rd x81 x83) < (x15.length : Int) then (if x16.length < 17592186044416 then (impl_RenameTracks.l3 k x1 x2 x12 x13 x15 (x16 ++ [rd x15 (rd x81 x83)]) x61 x62 x63 x71 x72 x81 x82 (wrap64 (x83 + 1)) x506000 x506001 x506002 x506003 x513000 x513001 x513002 x513003) else (none)) else (none)) else (none)) else (none)) else (none)) else ((impl_letterOf.f k x506000 x16).bind fun t540 => (if 0 ≤ t540 then (if t540 < (x12.length : Int) then (if x13.length < 17592186044416 then (impl_RenameTracks.l2 k x1 x2 x12 (x13 ++ [rd x12 t540]) x61 x62 x63 x71 (wrap64 (x72 + 1)) x506000 x506001 x506002 x506003 x513000 x513001 x513002 x513003) else (none)) else (none)) else (none)))
end
def impl_RenameTracks.f (k : Nat) (a0_0 : Int) (a0_1 : Int) (l0_2 : List (List Int)) (l0_3 : List Bool) (l1 : List Int) (a2 : Int) : Option (Int × Int × (List (List Int)) × List Bool × Bool) := (impl_IsRelation.f k a0_0 a0_1 l0_2 l0_3).bind fun t507 => (if t507 = true then (if (l1.length : Int) = a0_1 then (if a2 < 0 then (impl_RenameTracks.j0 k l1 a2 true a0_0 a0_1 l0_2 l0_3) else (impl_RenameTracks.j0 k l1 a2 (decide (a2 > 3)) a0_0 a0_1 l0_2 l0_3)) else (impl_RenameTracks.j0 k l1 a2 true a0_0 a0_1 l0_2 l0_3)) else (impl_RenameTracks.j0 k l1 a2 true a0_0 a0_1 l0_2 l0_3))
theorem impl_RenameTracks.mono_l : ∀ k, (∀ y0 y1 y2 y3 y4 y5 y6, LeO (impl_RenameTracks.j0 k y0 y1 y2 y3 y4 y5 y6) (impl_RenameTracks.j0 (k + 1) y0 y1 y2 y3 y4 y5 y6)) ∧ (∀ y0 y1 y2 y3 y4 y5 y6 y7 y8, LeO (impl_RenameTracks.l0 k y0 y1 y2 y3 y4 y5 y6 y7 y8) (impl_RenameTracks.l0 (k + 1) y0 y1 y2 y3 y4 y5 y6 y7 y8)) ∧ (∀ y0 y1 y2 y3 y4 y5 y6 y7 y8 y9 y10 y11 y12, LeO (impl_RenameTracks.l1 k y0 y1 y2 y3 y4 y5 y6 y7 y8 y9 y10 y11 y12) (impl_RenameTracks.l1 (k + 1) y0 y1 y2 y3 y4 y5 y6 y7 y8 y9 y10 y11 y12)) ∧ (∀ y0 y1 y2 y3 y4 y5 y6 y7 y8 y9 y10 y11 y12 y13 y14 y15 y16, LeO (impl_RenameTracks.l2 k y0 y1 y2 y3 y4 y5 y6 y7 y8 y9 y10 y11 y12 y13 y14 y15 y16) (impl_RenameTracks.l2 (k + 1) y0 y1 y2 y3 y4 y5 y6 y7 y8 y9 y10 y11 y12 y13 y14 y15 y16)) ∧ (∀ y0 y1 y2 y3 y4 y5 y6 y7 y8 y9 y10 y11 y12 y13 y14 y15 y16 y17 y18 y19 y20 y21, LeO (impl_RenameTracks.l3 k y0 y1 y2 y3 y4 y5 y6 y7 y8 y9 y10 y11 y12 y13 y14 y15 y16 y17 y18 y19 y20 y21) (impl_RenameTracks.l3 (k + 1) y0 y1 y2 y3 y4 y5 y6 y7 y8 y9 y10 y11 y12 y13 y14 y15 y16 y17 y18 y19 y20 y21))
 | 0 => ⟨fun _ _ _ _ _ _ _ r h => by simp [impl_RenameTracks.j0] at h, fun _ _ _ _ _ _ _ _ _ r h => by simp [impl_RenameTracks.l0] at h, fun _ _ _ _ _ _ _ _ _ _ _ _ _ r h => by simp [impl_RenameTracks.l1] at h, fun _ _ _ _ _ _ _ _ _ _ _ _ _ _ _ _ _ r h => by simp [impl_RenameTracks.l2] at h, fun _ _ _ _ _ _ _ _ _ _ _ _ _ _ _ _ _ _ _ _ _ _ r h => by simp [impl_RenameTracks.l3] at h⟩
 | k + 1 => by
  obtain ⟨ih0, ih1, ih2, ih3, ih4⟩ := impl_RenameTracks.mono_l k
  refine ⟨?_, ?_, ?_, ?_, ?_⟩ <;> intros <;> first | unfold impl_RenameTracks.j0 | unfold impl_RenameTracks.l0 | unfold impl_RenameTracks.l1 | unfold impl_RenameTracks.l2 | unfold impl_RenameTracks.l3
  all_goals repeat' (with_reducible first | exact ih0 _ _ _ _ _ _ _ | exact ih1 _ _ _ _ _ _ _ _ _ | exact ih2 _ _ _ _ _ _ _ _ _ _ _ _ _ | exact ih3 _ _ _ _ _ _ _ _ _ _ _ _ _ _ _ _ _ | exact ih4 _ _ _ _ _ _ _ _ _ _ _ _ _ _ _ _ _ _ _ _ _ _ | exact impl_IsRelation.mono _ _ _ _ _ | exact impl_Relation_reduced.mono _ _ _ _ _ | exact impl_letterOf.mono _ _ _ | exact impl_power.mono _ _ _ | exact impl_tracksOf.mono _ _ _ _ | exact LeO.refl _ | exact LeO.none _ | refine LeO.ite ?_ ?_ | refine LeO.bind ?_ fun _ => ?_)
theorem impl_RenameTracks.mono : ∀ a0 a1 a2 a3 a4 a5 k, LeO (impl_RenameTracks.f k a0 a1 a2 a3 a4 a5) (impl_RenameTracks.f (k + 1) a0 a1 a2 a3 a4 a5) := by
 intro a0 a1 a2 a3 a4 a5 k
 obtain ⟨ih0, ih1, ih2, ih3, ih4⟩ := impl_RenameTracks.mono_l k
 unfold impl_RenameTracks.f
 repeat' (with_reducible first | exact ih0 _ _ _ _ _ _ _ | exact ih1 _ _ _ _ _ _ _ _ _ | exact ih2 _ _ _ _ _ _ _ _ _ _ _ _ _ | exact ih3 _ _ _ _ _ _ _ _ _ _ _ _ _ _ _ _ _ | exact ih4 _ _ _ _ _ _ _ _ _ _ _ _ _ _ _ _ _ _ _ _ _ _ | exact impl_IsRelation.mono _ _ _ _ _ | exact impl_Relation_reduced.mono _ _ _ _ _ | exact impl_letterOf.mono _ _ _ | exact impl_power.mono _ _ _ | exact impl_tracksOf.mono _ _ _ _ | exact LeO.refl _ | exact LeO.none _ | refine LeO.ite ?_ ?_ | refine LeO.bind ?_ fun _ => ?_)
def impl_RenameTracks.T9 : Bool × List (List Nat × List Nat) := (true, [([], []), ([0], [0]), ([], []), ([], []), ([3], [3]), ([4], [4]), ([1, 2, 5], [1, 2, 5]), ([], []), ([7, 6, 5, 0, 1, 2, 3, 4, 5, 6, 7], [6, 7])])
def impl_RenameTracks.B9 : List Nat := [0, 1, 0, 0, 8, 24, 63, 0, 255]
theorem impl_RenameTracks.tab9 : rtab .any (opsOf Try.f50 9) = impl_RenameTracks.T9 := by kernel_rfl
theorem impl_RenameTracks.bits9 : waitsOk impl_RenameTracks.T9.2 impl_RenameTracks.B9 = true := by kernel_rfl
set_option maxHeartbeats 8000000 in
set_option maxRecDepth 100000 in
theorem impl_RenameTracks.calls (k : Nat) (a0_0 : Int) (a0_1 : Int) (A0_2 : Option Addr) (c0_2 : Nat) (l0_2 : List (List Int)) (A0_3 : Option Addr) (c0_3 : Nat) (l0_3 : List Bool) (A1 : Option Addr) (c1 : Nat) (l1 : List Int) (a2 : Int) (r1 : Int) (r2 : Int) (r3 : List (List Int)) (r4 : List Bool) (r5 : Bool) (w : World) (hr0_2 : Kd.C (Kd.slice 3 (Kd.int .i64)) w A0_2 l0_2.length l0_2) (hc0_2 : l0_2.length ≤ c0_2) (hr0_3 : Kd.C Kd.bool w A0_3 l0_3.length l0_3) (hc0_3 : l0_3.length ≤ c0_3) (hr1 : Kd.C (Kd.int .i64) w A1 l1.length l1) (hc1 : l1.length ≤ c1) (h : impl_RenameTracks.f k a0_0 a0_1 l0_2 l0_3 l1 a2 = some (r1, r2, r3, r4, r5)) :
  Calls Try.prog 50 #[.agg #[.int .i64 a0_0, .int .i64 a0_1, .slice A0_2 l0_2.length c0_2, .slice A0_3 l0_3.length c0_3], .slice A1 l1.length c1, .int .i64 a2] w fun e w' => ∃ v2_ v3_ : Value, e = .returned (.tuple #[.agg #[.int .i64 r1, .int .i64 r2, v2_, v3_], .bool r5]) ∧ Kd.S (Kd.slice 3 (Kd.int .i64)) 38 w' w.heap.size (fun _ => True) v2_ r3 ∧ Kd.R Kd.bool 4 w' w.heap.size (fun _ => True) v3_ r4 ∧ Below w.heap.size w w' := by
 have hu25 := Try.underlying25
 have HR0_2 := yA hr0_2
 have HC0_2 := yA hc0_2
 clear hr0_2 hc0_2
 have HR0_3 := yA hr0_3
 have HC0_3 := yA hc0_3
 clear hr0_3 hc0_3
 have HR1 := yA hr1
 have HC1 := yA hc1
 clear hr1 hc1
 have HB := yA (zV w.heap.size w)
 have H : ((impl_IsRelation.f k a0_0 a0_1 l0_2 l0_3).bind fun t507 => (if t507 = true then (if (l1.length : Int) = a0_1 then (if a2 < 0 then (impl_RenameTracks.j0 k l1 a2 true a0_0 a0_1 l0_2 l0_3) else (impl_RenameTracks.j0 k l1 a2 (decide (a2 > 3)) a0_0 a0_1 l0_2 l0_3)) else (impl_RenameTracks.j0 k l1 a2 true a0_0 a0_1 l0_2 l0_3)) else (impl_RenameTracks.j0 k l1 a2 true a0_0 a0_1 l0_2 l0_3))) = some (r1, r2, r3, r4, r5) := h
 clear h
 have HC4 := yA H
 clear H
 go_enter Try.func50, Try.ntmps50
 go_upto_region 1 with (first | ((with_reducible refine gate_dst (N := 3) rfl ?_); refine box_event ?hg (N := 3) ?hd (cs := #[.int .i64 a0_0, .int .i64 a0_1, .slice A0_2 l0_2.length c0_2, .slice A0_3 l0_3.length c0_3]) (t := 25) ?hr ?_; (case hd => rfl); (case hg => rfl); (case hr => first | (go_simp; done) | (go_simp; rfl)); intro gb505 hg w5 hbox hb; have BK505 := yA (hbox); have GW505 := yA ((by rw [hg]; exact (yX (mB HB.out)) : w.heap.size ≤ gb505)); have GE505 := yA ((by rw [hg]; exact (yX (mB HB.out)) : w.heap.size ≤ gb505)); replace HB := yA (zD (mB HB.out) hb); clear hb hbox hg) | ((with_reducible refine gate_dst (N := 6) rfl ?_); refine box_event ?hg (N := 6) ?hd (cs := #[.int .i64 0, .int .i64 0, .slice none 0 0, .slice none 0 0]) (t := 25) ?hr ?_; (case hd => rfl); (case hg => rfl); (case hr => first | (go_simp; done) | (go_simp; rfl)); intro gb506 hg w6 hbox hb; have BK506 := yA (hbox); have GW506 := yA ((by rw [hg]; exact (yX (by with_reducible repeat first | exact HB.out | apply yO | apply yN | apply yP | refine yQ ?_ GE505.out)) : w.heap.size ≤ gb506)); have GE506 := yA ((by rw [hg]; exact (yX (by with_reducible repeat first | exact HB.out | apply yO | apply yN | apply yP | refine yQ ?_ GE505.out)) : w.heap.size ≤ gb506)); replace HB := yA (zD (by with_reducible repeat first | exact HB.out | apply yO | apply yN | apply yP | refine yQ ?_ GE505.out) hb); have NB505_506 := yA ((by rw [hg]; exact Nat.ne_of_lt (zX (mK BK505.out)) : gb505 ≠ gb506)); have NB506_505 := yA ((by rw [hg]; exact Nat.ne_of_gt (zX (mK BK505.out)) : gb506 ≠ gb505)); replace BK505 := yA (yU (mK BK505.out) hb); clear hb hbox hg))
 (try simp only [Act.put, zA, zB, zC])
 go_cut [36] (fun v36 wc => ∃ (kq : Nat) (x36_3 : Bool), v36 = .bool x36_3 ∧ Aside0 (impl_RenameTracks.j0 kq l1 a2 x36_3 a0_0 a0_1 l0_2 l0_3 = some (r1, r2, r3, r4, r5)) ∧ Aside0 (kq ≤ k) ∧ Aside0 (wc.heap[gb505]? = some (.cells #[.int .i64 a0_0, .int .i64 a0_1, (.slice A0_2 l0_2.length c0_2), (.slice A0_3 l0_3.length c0_3)] 25 (0, 0))) ∧ Aside0 (wc.heap[gb506]? = some (.cells #[.int .i64 0, .int .i64 0, (.slice none 0 0), (.slice none 0 0)] 25 (0, 0))) ∧ Aside0 (Below w.heap.size w wc))
 case first =>
  have H := HC4.out
  clear HC4
  obtain ⟨t507, A7, H⟩ := bE H
  by_cases c8 : t507 = true
  ·subst c8
   replace H := iT H
   by_cases c9 : (l1.length : Int) = a0_1
   ·rw [if_pos c9] at H
    have c9b0 : ((l1.length : Int) == a0_1) = true := beq_iff_eq.mpr c9
    have c9b1 : ((l1.length : Int) != a0_1) = false := bne_eq_false_iff_eq.mpr c9
    clear c9
    (first | rw [c9b0] | (simp only [i64_w, i32_w]; rw [c9b0]) | skip)
    by_cases c10 : a2 < 0
    ·rw [if_pos c10] at H
     have c10b0 : decide (a2 < 0) = true := zH c10
     clear c10
     have H' := yA H
     clear H
     have hnb11 := NB505_506.out
     have hnc11 := NB506_505.out
     obtain ⟨hcz12_0, hcz12_1, hcz12_2, hcz12_3⟩ := cz4 BK505.out
     obtain ⟨hfz12_0, hfz12_1, hfz12_2, hfz12_3⟩ := fz4 BK505.out
     go_wp2_with (first | ((with_reducible refine zS (f := 65) rfl ?_); refine goesL_ (some 20) rfl rfl Try.func65 (by kernel_rfl) rfl #[.agg #[.int .i64 a0_0, .int .i64 a0_1, .slice A0_2 l0_2.length c0_2, .slice A0_3 l0_3.length c0_3]] rfl (by (try simp only [zI, zJ, zK]); first | done | rfl | (simp only [zL, zM]; rfl)) ?_; (with_reducible refine (impl_IsRelation.calls k a0_0 a0_1 _ _ l0_2 _ _ l0_3 true _ ?side1 ?side2 ?side3 ?side4 A7.out).mono ?_); (case side1 => exact mC (yM HR0_2.out HB.out)); (case side2 => exact HC0_2.out); (case side3 => exact mC (yM HR0_3.out HB.out)); (case side4 => exact HC0_3.out); rintro e w13 ⟨rfl, hb⟩; refine ⟨_, rfl, ?_⟩; replace BK505 := yA (yU (mK BK505.out) hb); replace BK506 := yA (yU (mK BK506.out) hb); replace HB := yA (zD (by with_reducible repeat first | exact HB.out | apply yO | apply yN | apply yP | refine yQ ?_ GE505.out | refine yQ ?_ GE506.out) hb); (try clear hb); (try clear hb2); (try clear hk); (try clear hi); have hcz14_0 : w13.cell? ⟨gb505, 0, none⟩ = some (.int .i64 a0_0) := (yV BK505.out 0).trans rfl; have hcz14_1 : w13.cell? ⟨gb505, 1, none⟩ = some (.int .i64 a0_1) := (yV BK505.out 1).trans rfl; have hcz14_2 : w13.cell? ⟨gb505, 2, none⟩ = some (.slice A0_2 l0_2.length c0_2) := (yV BK505.out 2).trans rfl; have hcz14_3 : w13.cell? ⟨gb505, 3, none⟩ = some (.slice A0_3 l0_3.length c0_3) := (yV BK505.out 3).trans rfl; have hfz14_0 := yW BK505.out 0; have hfz14_1 := yW BK505.out 1; have hfz14_2 := yW BK505.out 2; have hfz14_3 := yW BK505.out 3))
     go_meet
     case rel => exact ⟨_, (true), (by first | rfl | (simp; done) | (simp [*]; done)), H', ⟨by first | omega | exact zT _⟩, ⟨mK BK505.out⟩, ⟨mK BK506.out⟩, ⟨by repeat (first | (with_reducible first | exact HB.out | apply yO | apply yN | apply yP | refine yQ ?_ GE505.out | refine yQ ?_ GE506.out) | exact HB.out)⟩⟩
    ·rw [if_neg c10] at H
     have c10b0 : decide (a2 < 0) = false := decide_eq_false c10
     clear c10
     have H' := yA H
     clear H
     have hnb15 := NB505_506.out
     have hnc15 := NB506_505.out
     obtain ⟨hcz16_0, hcz16_1, hcz16_2, hcz16_3⟩ := cz4 BK505.out
     obtain ⟨hfz16_0, hfz16_1, hfz16_2, hfz16_3⟩ := fz4 BK505.out
     go_wp2_with (first | ((with_reducible refine zS (f := 65) rfl ?_); refine goesL_ (some 20) rfl rfl Try.func65 (by kernel_rfl) rfl #[.agg #[.int .i64 a0_0, .int .i64 a0_1, .slice A0_2 l0_2.length c0_2, .slice A0_3 l0_3.length c0_3]] rfl (by (try simp only [zI, zJ, zK]); first | done | rfl | (simp only [zL, zM]; rfl)) ?_; (with_reducible refine (impl_IsRelation.calls k a0_0 a0_1 _ _ l0_2 _ _ l0_3 true _ ?side1 ?side2 ?side3 ?side4 A7.out).mono ?_); (case side1 => exact mC (yM HR0_2.out HB.out)); (case side2 => exact HC0_2.out); (case side3 => exact mC (yM HR0_3.out HB.out)); (case side4 => exact HC0_3.out); rintro e w17 ⟨rfl, hb⟩; refine ⟨_, rfl, ?_⟩; replace BK505 := yA (yU (mK BK505.out) hb); replace BK506 := yA (yU (mK BK506.out) hb); replace HB := yA (zD (by with_reducible repeat first | exact HB.out | apply yO | apply yN | apply yP | refine yQ ?_ GE505.out | refine yQ ?_ GE506.out) hb); (try clear hb); (try clear hb2); (try clear hk); (try clear hi); have hcz18_0 : w17.cell? ⟨gb505, 0, none⟩ = some (.int .i64 a0_0) := (yV BK505.out 0).trans rfl; have hcz18_1 : w17.cell? ⟨gb505, 1, none⟩ = some (.int .i64 a0_1) := (yV BK505.out 1).trans rfl; have hcz18_2 : w17.cell? ⟨gb505, 2, none⟩ = some (.slice A0_2 l0_2.length c0_2) := (yV BK505.out 2).trans rfl; have hcz18_3 : w17.cell? ⟨gb505, 3, none⟩ = some (.slice A0_3 l0_3.length c0_3) := (yV BK505.out 3).trans rfl; have hfz18_0 := yW BK505.out 0; have hfz18_1 := yW BK505.out 1; have hfz18_2 := yW BK505.out 2; have hfz18_3 := yW BK505.out 3))
     go_meet
     case rel => exact ⟨_, (decide (a2 > 3)), (by first | rfl | (simp; done) | (simp [*]; done)), H', ⟨by first | omega | exact zT _⟩, ⟨mK BK505.out⟩, ⟨mK BK506.out⟩, ⟨by repeat (first | (with_reducible first | exact HB.out | apply yO | apply yN | apply yP | refine yQ ?_ GE505.out | refine yQ ?_ GE506.out) | exact HB.out)⟩⟩
   ·rw [if_neg c9] at H
    have c9b0 : ((l1.length : Int) == a0_1) = false := beq_eq_false_iff_ne.mpr c9
    have c9b1 : ((l1.length : Int) != a0_1) = true := bne_iff_ne.mpr c9
    (first | rw [c9b0] | (simp only [i64_w, i32_w]; rw [c9b0]) | skip)
    have H' := yA H
    clear H
    have hnb19 := NB505_506.out
    have hnc19 := NB506_505.out
    obtain ⟨hcz20_0, hcz20_1, hcz20_2, hcz20_3⟩ := cz4 BK505.out
    obtain ⟨hfz20_0, hfz20_1, hfz20_2, hfz20_3⟩ := fz4 BK505.out
    go_wp2_with (first | ((with_reducible refine zS (f := 65) rfl ?_); refine goesL_ (some 20) rfl rfl Try.func65 (by kernel_rfl) rfl #[.agg #[.int .i64 a0_0, .int .i64 a0_1, .slice A0_2 l0_2.length c0_2, .slice A0_3 l0_3.length c0_3]] rfl (by (try simp only [zI, zJ, zK]); first | done | rfl | (simp only [zL, zM]; rfl)) ?_; (with_reducible refine (impl_IsRelation.calls k a0_0 a0_1 _ _ l0_2 _ _ l0_3 true _ ?side1 ?side2 ?side3 ?side4 A7.out).mono ?_); (case side1 => exact mC (yM HR0_2.out HB.out)); (case side2 => exact HC0_2.out); (case side3 => exact mC (yM HR0_3.out HB.out)); (case side4 => exact HC0_3.out); rintro e w21 ⟨rfl, hb⟩; refine ⟨_, rfl, ?_⟩; replace BK505 := yA (yU (mK BK505.out) hb); replace BK506 := yA (yU (mK BK506.out) hb); replace HB := yA (zD (by with_reducible repeat first | exact HB.out | apply yO | apply yN | apply yP | refine yQ ?_ GE505.out | refine yQ ?_ GE506.out) hb); (try clear hb); (try clear hb2); (try clear hk); (try clear hi); have hcz22_0 : w21.cell? ⟨gb505, 0, none⟩ = some (.int .i64 a0_0) := (yV BK505.out 0).trans rfl; have hcz22_1 : w21.cell? ⟨gb505, 1, none⟩ = some (.int .i64 a0_1) := (yV BK505.out 1).trans rfl; have hcz22_2 : w21.cell? ⟨gb505, 2, none⟩ = some (.slice A0_2 l0_2.length c0_2) := (yV BK505.out 2).trans rfl; have hcz22_3 : w21.cell? ⟨gb505, 3, none⟩ = some (.slice A0_3 l0_3.length c0_3) := (yV BK505.out 3).trans rfl; have hfz22_0 := yW BK505.out 0; have hfz22_1 := yW BK505.out 1; have hfz22_2 := yW BK505.out 2; have hfz22_3 := yW BK505.out 3))
    go_meet
    case rel => exact ⟨_, (true), (by first | rfl | (simp; done) | (simp [*]; done)), H', ⟨by first | omega | exact zT _⟩, ⟨mK BK505.out⟩, ⟨mK BK506.out⟩, ⟨by repeat (first | (with_reducible first | exact HB.out | apply yO | apply yN | apply yP | refine yQ ?_ GE505.out | refine yQ ?_ GE506.out) | exact HB.out)⟩⟩
  ·replace c8 := Bool.eq_false_iff.mpr c8
   subst c8
   replace H := iF H
   have H' := yA H
   clear H
   have hnb23 := NB505_506.out
   have hnc23 := NB506_505.out
   obtain ⟨hcz24_0, hcz24_1, hcz24_2, hcz24_3⟩ := cz4 BK505.out
   obtain ⟨hfz24_0, hfz24_1, hfz24_2, hfz24_3⟩ := fz4 BK505.out
   go_wp2_with (first | ((with_reducible refine zS (f := 65) rfl ?_); refine goesL_ (some 20) rfl rfl Try.func65 (by kernel_rfl) rfl #[.agg #[.int .i64 a0_0, .int .i64 a0_1, .slice A0_2 l0_2.length c0_2, .slice A0_3 l0_3.length c0_3]] rfl (by (try simp only [zI, zJ, zK]); first | done | rfl | (simp only [zL, zM]; rfl)) ?_; (with_reducible refine (impl_IsRelation.calls k a0_0 a0_1 _ _ l0_2 _ _ l0_3 false _ ?side1 ?side2 ?side3 ?side4 A7.out).mono ?_); (case side1 => exact mC (yM HR0_2.out HB.out)); (case side2 => exact HC0_2.out); (case side3 => exact mC (yM HR0_3.out HB.out)); (case side4 => exact HC0_3.out); rintro e w25 ⟨rfl, hb⟩; refine ⟨_, rfl, ?_⟩; replace BK505 := yA (yU (mK BK505.out) hb); replace BK506 := yA (yU (mK BK506.out) hb); replace HB := yA (zD (by with_reducible repeat first | exact HB.out | apply yO | apply yN | apply yP | refine yQ ?_ GE505.out | refine yQ ?_ GE506.out) hb); (try clear hb); (try clear hb2); (try clear hk); (try clear hi)))
   go_meet
   case rel => exact ⟨_, (true), (by first | rfl | (simp; done) | (simp [*]; done)), H', ⟨by first | omega | exact zT _⟩, ⟨mK BK505.out⟩, ⟨mK BK506.out⟩, ⟨by repeat (first | (with_reducible first | exact HB.out | apply yO | apply yN | apply yP | refine yQ ?_ GE505.out | refine yQ ?_ GE506.out) | exact HB.out)⟩⟩
 case rest =>
  clear HC4
  (try clear c1);(try clear c2);(try clear p2);(try clear c5);(try clear c6);(try clear c8);(try clear c9);(try clear c9b0);(try clear c9b1);(try clear c10);(try clear c10b0);(try clear c11);(try clear c15);(try clear c19);(try clear c23);(try clear hcz12_0);(try clear hcz12_1);(try clear hcz12_2);(try clear hcz12_3);(try clear hcz14_0);(try clear hcz14_1);(try clear hcz14_2);(try clear hcz14_3);(try clear hcz16_0);(try clear hcz16_1);(try clear hcz16_2);(try clear hcz16_3);(try clear hcz18_0);(try clear hcz18_1);(try clear hcz18_2);(try clear hcz18_3);(try clear hcz20_0);(try clear hcz20_1);(try clear hcz20_2);(try clear hcz20_3);(try clear hcz22_0);(try clear hcz22_1);(try clear hcz22_2);(try clear hcz22_3);(try clear hcz24_0);(try clear hcz24_1);(try clear hcz24_2);(try clear hcz24_3);(try clear hfz12_0);(try clear hfz12_1);(try clear hfz12_2);(try clear hfz12_3);(try clear hfz14_0);(try clear hfz14_1);(try clear hfz14_2);(try clear hfz14_3);(try clear hfz16_0);(try clear hfz16_1);(try clear hfz16_2);(try clear hfz16_3);(try clear hfz18_0);(try clear hfz18_1);(try clear hfz18_2);(try clear hfz18_3);(try clear hfz20_0);(try clear hfz20_1);(try clear hfz20_2);(try clear hfz20_3);(try clear hfz22_0);(try clear hfz22_1);(try clear hfz22_2);(try clear hfz22_3);(try clear hfz24_0);(try clear hfz24_1);(try clear hfz24_2);(try clear hfz24_3)
  obtain ⟨kq, x36_3, rfl, HA, HJ3, BK505, BK506, HB⟩ := hcut
  cases kq with
  | zero => exact absurd HA.out (by simp [impl_RenameTracks.j0])
  | succ kj3 =>
   have H := HA.out
   clear HA
   simp only [impl_RenameTracks.j0] at H
   by_cases c26 : x36_3 = true
   ·subst c26
    replace H := iT H
    simp only [Option.some.injEq, Prod.mk.injEq] at H
    obtain ⟨rfl, rfl, rfl, rfl, rfl⟩ := H
    have hnb27 := NB506_505.out
    have hnc27 := NB505_506.out
    obtain ⟨hcz28_0, hcz28_1, hcz28_2, hcz28_3⟩ := cz4 BK506.out
    obtain ⟨hfz28_0, hfz28_1, hfz28_2, hfz28_3⟩ := fz4 BK506.out
    go_wp2
    refine bodyPost_ret (results_ct rfl _ _ gb506 25 #[.int .i64 0, .int .i64 0, .slice none 0 0, .slice none 0 0] (0, 0) _ rfl (by (with_reducible repeat (first | refine yS ?_ _ | refine yT ?_ | refine yR ?_ _)); refine blk_put (cs := #[.int .i64 0, .int .i64 0, .slice none 0 0, .slice none 0 0]) ?_ 3 _ rfl; (with_reducible repeat (first | refine yS ?_ _ | refine yT ?_ | refine yR ?_ _)); refine blk_put (cs := #[.int .i64 0, .int .i64 0, .slice none 0 0, .slice none 0 0]) ?_ 2 _ rfl; (with_reducible repeat (first | refine yS ?_ _ | refine yT ?_ | refine yR ?_ _)); refine blk_put (cs := #[.int .i64 0, .int .i64 0, .slice none 0 0, .slice none 0 0]) ?_ 1 _ rfl; (with_reducible repeat (first | refine yS ?_ _ | refine yT ?_ | refine yR ?_ _)); refine blk_put (cs := #[.int .i64 0, .int .i64 0, .slice none 0 0, .slice none 0 0]) ?_ 0 _ rfl; (with_reducible repeat (first | refine yS ?_ _ | refine yT ?_ | refine yR ?_ _)); exact BK506.out) Try.underlying25 rfl (by kernel_rfl)) rfl ?_
    exact ⟨_, _, by first | rfl | (simp [errW_none, errW_some] <;> rfl) | (simp [*, errW_none, errW_some] <;> rfl), by first | exact Kd.S_nil _ _ _ _ _ | exact Kd.N_nil _ _ _ _ _ | exact Kd.V_nil _ _ _ _ _ | exact Kd.Q_nil _ _ _ _ _ | exact Kd.R_nil _ _ _ _ _, by first | exact Kd.R_nil _ _ _ _ _ | exact Kd.N_nil _ _ _ _ _ | exact Kd.V_nil _ _ _ _ _ | exact Kd.Q_nil _ _ _ _ _ | exact Kd.S_nil _ _ _ _ _, by repeat (first | (with_reducible first | exact HB.out | apply yO | apply yN | apply yP | refine yQ ?_ GE505.out | refine yQ ?_ GE506.out) | exact HB.out)⟩
   ·replace c26 := Bool.eq_false_iff.mpr c26
    subst c26
    replace H := iF H
    have H' := yA H
    clear H
    go_wp2
    go_loopg [40] kj3 (fun kq v40 w' => ∃ (x40_2 : Int) (x507000_2 : Int) (x507001_2 : Int), v40 = .int .i64 x40_2 ∧ Aside0 (impl_RenameTracks.l0 kq l1 a2 l1 (l1.length : Int) x40_2 a0_0 a0_1 l0_2 l0_3 = some (r1, r2, r3, r4, r5)) ∧ Aside0 (kq ≤ kj3) ∧ Aside0 (w'.heap[gb505]? = some (.cells #[.int .i64 a0_0, .int .i64 a0_1, (.slice A0_2 l0_2.length c0_2), (.slice A0_3 l0_3.length c0_3)] 25 (0, 0))) ∧ Aside0 (w'.heap[gb506]? = some (.cells #[.int .i64 x507000_2, .int .i64 x507001_2, (.slice none 0 0), (.slice none 0 0)] 25 (0, 0))) ∧ Aside0 (Below w.heap.size w w'))
    case atStart => exact ⟨(0), (0), (0), (by first | rfl | (simp; done) | (simp [*]; done)), H', ⟨zT _⟩, ⟨mK BK505.out⟩, ⟨mK BK506.out⟩, ⟨by repeat (first | (with_reducible first | exact HB.out | apply yO | apply yN | apply yP | refine yQ ?_ GE505.out | refine yQ ?_ GE506.out) | exact HB.out)⟩⟩
    case round =>
     clear H'
     (try clear c1);(try clear c2);(try clear p2);(try clear c5);(try clear c6);(try clear c8);(try clear c9);(try clear c9b0);(try clear c9b1);(try clear c10);(try clear c10b0);(try clear c11);(try clear c15);(try clear c19);(try clear c23);(try clear c26);(try clear c27);(try clear hcz12_0);(try clear hcz12_1);(try clear hcz12_2);(try clear hcz12_3);(try clear hcz14_0);(try clear hcz14_1);(try clear hcz14_2);(try clear hcz14_3);(try clear hcz16_0);(try clear hcz16_1);(try clear hcz16_2);(try clear hcz16_3);(try clear hcz18_0);(try clear hcz18_1);(try clear hcz18_2);(try clear hcz18_3);(try clear hcz20_0);(try clear hcz20_1);(try clear hcz20_2);(try clear hcz20_3);(try clear hcz22_0);(try clear hcz22_1);(try clear hcz22_2);(try clear hcz22_3);(try clear hcz24_0);(try clear hcz24_1);(try clear hcz24_2);(try clear hcz24_3);(try clear hcz28_0);(try clear hcz28_1);(try clear hcz28_2);(try clear hcz28_3);(try clear hfz12_0);(try clear hfz12_1);(try clear hfz12_2);(try clear hfz12_3);(try clear hfz14_0);(try clear hfz14_1);(try clear hfz14_2);(try clear hfz14_3);(try clear hfz16_0);(try clear hfz16_1);(try clear hfz16_2);(try clear hfz16_3);(try clear hfz18_0);(try clear hfz18_1);(try clear hfz18_2);(try clear hfz18_3);(try clear hfz20_0);(try clear hfz20_1);(try clear hfz20_2);(try clear hfz20_3);(try clear hfz22_0);(try clear hfz22_1);(try clear hfz22_2);(try clear hfz22_3);(try clear hfz24_0);(try clear hfz24_1);(try clear hfz24_2);(try clear hfz24_3);(try clear hfz28_0);(try clear hfz28_1);(try clear hfz28_2);(try clear hfz28_3);(try clear p2)
     obtain ⟨x40_2, x507000_2, x507001_2, rfl, HA, HK2, BK505, BK506, HB⟩ := hrel
     cases gk with
     | zero => exact absurd HA.out (by simp [impl_RenameTracks.l0])
     | succ k2 =>
      have H := HA.out
      clear HA
      simp only [impl_RenameTracks.l0] at H
      by_cases c29 : x40_2 < (l1.length : Int)
      ·rw [if_pos c29] at H
       have c29b0 : decide (x40_2 < (l1.length : Int)) = true := zH c29
       clear c29
       obtain ⟨c30, H⟩ := iP H
       have c30b0 : decide (0 ≤ x40_2) = true := zH c30
       clear c30
       obtain ⟨c31, H⟩ := iP H
       have c31b0 : decide (x40_2 < (l1.length : Int)) = true := zH c31
       clear c31
       by_cases c32 : (rd l1 x40_2) < 0
       ·rw [if_pos c32] at H
        have c32b0 : decide ((rd l1 x40_2) < 0) = true := zH c32
        clear c32
        simp only [Option.some.injEq, Prod.mk.injEq] at H
        obtain ⟨rfl, rfl, rfl, rfl, rfl⟩ := H
        have p508 : 0 ≤ (x40_2 : Int) := zG (by assumption)
        have q508 : x40_2 < (l1.length : Int) := zG (by assumption)
        obtain ⟨ad508, e508, hx508_0⟩ := Kd.at_int HR1.out x40_2 p508 q508
        cases e508
        try replace hx508_0 := (HB.out.cell (zE w _ hx508_0)).trans hx508_0
        replace p508 := eq_true p508
        replace q508 := eq_true q508
        have hnb33 := NB506_505.out
        have hnc33 := NB505_506.out
        obtain ⟨hcz34_0, hcz34_1, hcz34_2, hcz34_3⟩ := cz4 BK506.out
        obtain ⟨hfz34_0, hfz34_1, hfz34_2, hfz34_3⟩ := fz4 BK506.out
        go_wp2
        refine bodyPost_ret (results_ct rfl _ _ gb506 25 #[.int .i64 0, .int .i64 0, .slice none 0 0, .slice none 0 0] (0, 0) _ rfl (by (with_reducible repeat (first | refine yS ?_ _ | refine yT ?_ | refine yR ?_ _)); refine blk_put (cs := #[.int .i64 0, .int .i64 0, .slice none 0 0, .slice none 0 0]) ?_ 3 _ rfl; (with_reducible repeat (first | refine yS ?_ _ | refine yT ?_ | refine yR ?_ _)); refine blk_put (cs := #[.int .i64 0, .int .i64 0, .slice none 0 0, .slice none 0 0]) ?_ 2 _ rfl; (with_reducible repeat (first | refine yS ?_ _ | refine yT ?_ | refine yR ?_ _)); refine blk_put (cs := #[.int .i64 0, .int .i64 x507001_2, .slice none 0 0, .slice none 0 0]) ?_ 1 _ rfl; (with_reducible repeat (first | refine yS ?_ _ | refine yT ?_ | refine yR ?_ _)); refine blk_put (cs := #[.int .i64 x507000_2, .int .i64 x507001_2, .slice none 0 0, .slice none 0 0]) ?_ 0 _ rfl; (with_reducible repeat (first | refine yS ?_ _ | refine yT ?_ | refine yR ?_ _)); exact BK506.out) Try.underlying25 rfl (by kernel_rfl)) rfl ?_
        exact ⟨_, _, by first | rfl | (simp [errW_none, errW_some] <;> rfl) | (simp [*, errW_none, errW_some] <;> rfl), by first | exact Kd.S_nil _ _ _ _ _ | exact Kd.N_nil _ _ _ _ _ | exact Kd.V_nil _ _ _ _ _ | exact Kd.Q_nil _ _ _ _ _ | exact Kd.R_nil _ _ _ _ _, by first | exact Kd.R_nil _ _ _ _ _ | exact Kd.N_nil _ _ _ _ _ | exact Kd.V_nil _ _ _ _ _ | exact Kd.Q_nil _ _ _ _ _ | exact Kd.S_nil _ _ _ _ _, by repeat (first | (with_reducible first | exact HB.out | apply yO | apply yN | apply yP | refine yQ ?_ GE505.out | refine yQ ?_ GE506.out) | exact HB.out)⟩
       ·rw [if_neg c32] at H
        have c32b0 : decide ((rd l1 x40_2) < 0) = false := decide_eq_false c32
        clear c32
        by_cases c35 : (rd l1 x40_2) ≥ a2
        ·rw [if_pos c35] at H
         have c35b0 : decide (a2 ≤ (rd l1 x40_2)) = true := zH c35
         clear c35
         simp only [Option.some.injEq, Prod.mk.injEq] at H
         obtain ⟨rfl, rfl, rfl, rfl, rfl⟩ := H
         have p508 : 0 ≤ (x40_2 : Int) := zG (by assumption)
         have q508 : x40_2 < (l1.length : Int) := zG (by assumption)
         obtain ⟨ad508, e508, hx508_0⟩ := Kd.at_int HR1.out x40_2 p508 q508
         cases e508
         try replace hx508_0 := (HB.out.cell (zE w _ hx508_0)).trans hx508_0
         replace p508 := eq_true p508
         replace q508 := eq_true q508
         have hnb36 := NB506_505.out
         have hnc36 := NB505_506.out
         obtain ⟨hcz37_0, hcz37_1, hcz37_2, hcz37_3⟩ := cz4 BK506.out
         obtain ⟨hfz37_0, hfz37_1, hfz37_2, hfz37_3⟩ := fz4 BK506.out
         go_wp2
         refine bodyPost_ret (results_ct rfl _ _ gb506 25 #[.int .i64 0, .int .i64 0, .slice none 0 0, .slice none 0 0] (0, 0) _ rfl (by (with_reducible repeat (first | refine yS ?_ _ | refine yT ?_ | refine yR ?_ _)); refine blk_put (cs := #[.int .i64 0, .int .i64 0, .slice none 0 0, .slice none 0 0]) ?_ 3 _ rfl; (with_reducible repeat (first | refine yS ?_ _ | refine yT ?_ | refine yR ?_ _)); refine blk_put (cs := #[.int .i64 0, .int .i64 0, .slice none 0 0, .slice none 0 0]) ?_ 2 _ rfl; (with_reducible repeat (first | refine yS ?_ _ | refine yT ?_ | refine yR ?_ _)); refine blk_put (cs := #[.int .i64 0, .int .i64 x507001_2, .slice none 0 0, .slice none 0 0]) ?_ 1 _ rfl; (with_reducible repeat (first | refine yS ?_ _ | refine yT ?_ | refine yR ?_ _)); refine blk_put (cs := #[.int .i64 x507000_2, .int .i64 x507001_2, .slice none 0 0, .slice none 0 0]) ?_ 0 _ rfl; (with_reducible repeat (first | refine yS ?_ _ | refine yT ?_ | refine yR ?_ _)); exact BK506.out) Try.underlying25 rfl (by kernel_rfl)) rfl ?_
         exact ⟨_, _, by first | rfl | (simp [errW_none, errW_some] <;> rfl) | (simp [*, errW_none, errW_some] <;> rfl), by first | exact Kd.S_nil _ _ _ _ _ | exact Kd.N_nil _ _ _ _ _ | exact Kd.V_nil _ _ _ _ _ | exact Kd.Q_nil _ _ _ _ _ | exact Kd.R_nil _ _ _ _ _, by first | exact Kd.R_nil _ _ _ _ _ | exact Kd.N_nil _ _ _ _ _ | exact Kd.V_nil _ _ _ _ _ | exact Kd.Q_nil _ _ _ _ _ | exact Kd.S_nil _ _ _ _ _, by repeat (first | (with_reducible first | exact HB.out | apply yO | apply yN | apply yP | refine yQ ?_ GE505.out | refine yQ ?_ GE506.out) | exact HB.out)⟩
        ·rw [if_neg c35] at H
         have c35b0 : decide (a2 ≤ (rd l1 x40_2)) = false := decide_eq_false c35
         clear c35
         have H' := yA H
         clear H
         have p508 : 0 ≤ (x40_2 : Int) := zG (by assumption)
         have q508 : x40_2 < (l1.length : Int) := zG (by assumption)
         obtain ⟨ad508, e508, hx508_0⟩ := Kd.at_int HR1.out x40_2 p508 q508
         cases e508
         try replace hx508_0 := (HB.out.cell (zE w _ hx508_0)).trans hx508_0
         replace p508 := eq_true p508
         replace q508 := eq_true q508
         go_wp2
         go_roundg k2
         case measure => have := HJ3.out; have := HK2.out; omega
         case rel => exact ⟨(wrap64 (x40_2 + 1)), (x507000_2), (x507001_2), (by first | rfl | (simp; done) | (simp [*]; done)), H', ⟨by have := HJ3.out; have := HK2.out; omega⟩, ⟨mK BK505.out⟩, ⟨mK BK506.out⟩, ⟨by repeat (first | (with_reducible first | exact HB.out | apply yO | apply yN | apply yP | refine yQ ?_ GE505.out | refine yQ ?_ GE506.out) | exact HB.out)⟩⟩
      ·rw [if_neg c29] at H
       have c29b0 : decide (x40_2 < (l1.length : Int)) = false := decide_eq_false c29
       clear c29
       obtain ⟨t509, A38, H⟩ := bE H
       have H' := yA H
       clear H
       try go_wp2
       replace BK505 := yA (yT BK505.out)
       replace BK506 := yA (yT BK506.out)
       replace HB := yA (yP HB.out)
       refine start_ (n := 9) (S := fun w' => w'.cell? ⟨gb505, 0, none⟩ = some (.int .i64 a0_0) ∧ w'.cell? ⟨gb505, 1, none⟩ = some (.int .i64 a0_1) ∧ w'.cell? ⟨gb505, 2, none⟩ = some (.slice A0_2 l0_2.length c0_2) ∧ w'.cell? ⟨gb505, 3, none⟩ = some (.slice A0_3 l0_3.length c0_3)) (ds := []) #[false, false, false, false, false, false, false, false, false] (by kernel_rfl) rfl rfl ⟨(yV BK505.out 0).trans rfl, (yV BK505.out 1).trans rfl, (yV BK505.out 2).trans rfl, (yV BK505.out 3).trans rfl⟩ (fun hHeld => ?_); refine with_tabW impl_RenameTracks.tab9 impl_RenameTracks.bits9 (fun HT_ HW_ => ?_)
       generalize wr.drew = w39 at BK505 BK506 HB hHeld ⊢
       refine pure_ (i := 0) (N := some 53) (v := ?_) (a' := ?_) #[true, false, false, false, false, false, false, false, false] rfl rfl (any_of HT_.out (by kernel_rfl)) (fun _ _ _ h => h) (Or.inl ⟨by rfl, ?_⟩) ?_ ?_
       rotate_left
       ·intro w'
        go_simp
        with_reducible rfl
       rotate_left
       ·simp only [Act.put, zA, zB, zC, i64_w, i32_w]
        rfl
       refine pure_ (i := 2) (N := some 55) (v := ?_) (a' := ?_) #[true, false, true, false, false, false, false, false, false] rfl rfl (any_of HT_.out (by kernel_rfl)) (fun _ _ _ h => h) (Or.inl ⟨by rfl, ?_⟩) ?_ ?_
       rotate_left
       ·intro w'
        go_simp
        with_reducible rfl
       rotate_left
       ·simp only [Act.put, zA, zB, zC, i64_w, i32_w]
        rfl
       refine pure_ (i := 3) (N := some 56) (v := ?_) (a' := ?_) #[true, false, true, true, false, false, false, false, false] rfl rfl (any_of HT_.out (by kernel_rfl)) (fun _ _ _ h => h) (Or.inl ⟨by rfl, ?_⟩) ?_ ?_
       rotate_left
       ·intro w'
        go_simp
        with_reducible rfl
       rotate_left
       ·simp only [Act.put, zA, zB, zC, i64_w, i32_w]
        rfl
       refine take_ (i := 1) (N := some 54) (v := ?_) (a' := ?_) #[true, true, true, true, false, false, false, false, false] rfl rfl (take_ofW HT_.out HW_.out (by kernel_rfl)) (fun _ _ _ h => h) (Or.inl ⟨by rfl, ?_⟩) hHeld ?_ ?_
       rotate_left
       ·rintro w' ⟨s0, s1, s2, s3⟩
        go_simp
        with_reducible rfl
       rotate_left
       ·simp only [Act.put, zA, zB, zC, i64_w, i32_w]
        rfl
       refine take_ (i := 4) (N := some 57) (v := ?_) (a' := ?_) #[true, true, true, true, true, false, false, false, false] rfl rfl (take_ofW HT_.out HW_.out (by kernel_rfl)) (fun _ _ _ h => h) (Or.inl ⟨by rfl, ?_⟩) hHeld ?_ ?_
       rotate_left
       ·rintro w' ⟨s0, s1, s2, s3⟩
        go_simp
        with_reducible rfl
       rotate_left
       ·simp only [Act.put, zA, zB, zC, i64_w, i32_w]
        rfl
       refine join_ (σ := Value × Nat) 1 #[true, true, true, true, true, true, true, true, false] (fun s_ => [(58, s_.1), (10, .pointer (some ⟨s_.2, 0, none⟩)), (59, .agg #[.int .i64 a0_0, .int .i64 a2, .slice none 0 0, s_.1])]) (fun s_ w' => (w'.cell? ⟨gb505, 0, none⟩ = some (.int .i64 a0_0) ∧ w'.cell? ⟨gb505, 1, none⟩ = some (.int .i64 a0_1) ∧ w'.cell? ⟨gb505, 2, none⟩ = some (.slice A0_2 l0_2.length c0_2) ∧ w'.cell? ⟨gb505, 3, none⟩ = some (.slice A0_3 l0_3.length c0_3)) ∧ (Kd.R Kd.bool 4 w' w.heap.size (fun _ => True) s_.1 t509) ∧ (w'.heap[gb505]? = some (.cells #[.int .i64 a0_0, .int .i64 a0_1, .slice A0_2 l0_2.length c0_2, .slice A0_3 l0_3.length c0_3] 25 (0, 0))) ∧ (w'.heap[gb506]? = some (.cells #[.int .i64 x507000_2, .int .i64 x507001_2, .slice none 0 0, .slice none 0 0] 25 (0, 0))) ∧ (w'.heap[s_.2]? = some (.cells #[.int .i64 0, .int .i64 0, .slice none 0 0, .slice none 0 0] 25 (0, 0))) ∧ (w.heap.size ≤ s_.2) ∧ (w.heap.size ≤ s_.2) ∧ (gb505 ≠ s_.2) ∧ (s_.2 ≠ gb505) ∧ (gb506 ≠ s_.2) ∧ (s_.2 ≠ gb506) ∧ (Below w.heap.size w w')) ?_ ?_
       rotate_left
       ·intro hCont
        refine two_ (i := 5) (j := 7) (Ni := some 58) (Nj := some 10) #[true, true, true, true, true, true, false, false, false] #[true, true, true, true, true, false, false, true, false] rfl rfl rfl rfl (two_of HT_.out (by kernel_rfl)) (by decide) (by decide) (fun K hK => ?_) (fun K hK => ?_)
        ·skip
         refine goes_ Try.func89 (by kernel_rfl) rfl #[.slice A0_3 l0_3.length c0_3] (by rfl) rfl rfl (by (try simp only [zI, zJ, zK]); first | done | rfl | (simp only [zL, zM]; rfl)) ?_
         with_reducible refine (slices_Clone_bool_bool.calls _ _ l0_3 t509 _ ?side1 ?side2 A38.out).mono ?_
         (case side1 => exact mC (yM HR0_3.out HB.out))
         (case side2 => exact HC0_3.out)
         rintro e w40 ⟨v510, rfl, ho0, hb⟩
         refine ⟨_, rfl, ?_⟩
         have HO511 := yA (Kd.R_lower ho0 (yX (by with_reducible repeat first | exact HB.out | apply yO | apply yN | apply yP | refine yQ ?_ GE505.out | refine yQ ?_ GE506.out)))
         replace BK505 := yA (yU (mK BK505.out) hb)
         replace BK506 := yA (yU (mK BK506.out) hb)
         replace HB := yA (zD (by with_reducible repeat first | exact HB.out | apply yO | apply yN | apply yP | refine yQ ?_ GE505.out | refine yQ ?_ GE506.out) hb)
         (try clear hb)
         (try clear hb2)
         (try clear hk)
         (try clear hi)
         (try clear ho0)
         obtain ⟨Ao41, co41, eo41⟩ := Kd.R_slice HO511.out
         (first | subst eo41 | (injection eo41 with f1_ f2_ f3_; have f4_ := f1_.symm; have f5_ := f3_.symm; clear f1_ f2_ f3_; subst f4_; subst f5_))
         refine hK.out _ _ ⟨(yV BK505.out 0).trans rfl, (yV BK505.out 1).trans rfl, (yV BK505.out 2).trans rfl, (yV BK505.out 3).trans rfl⟩ (fun hHeld => ?_)
         clear hK K
         refine norm_ (a' := ?_) ?_ ?_
         rotate_left
         ·show Act.put _ (some 58) _ = _
          simp only [Act.put, zA, zB, zC, i64_w, i32_w]
          rfl
         refine pure_ (i := 6) (N := some 59) (v := ?_) (a' := ?_) #[true, true, true, true, true, true, true, false, false] rfl rfl (any_of HT_.out (by kernel_rfl)) (fun _ _ _ h => h) (Or.inl ⟨by rfl, ?_⟩) ?_ ?_
         rotate_left
         ·intro w'
          go_simp
          with_reducible rfl
         rotate_left
         ·simp only [Act.put, zA, zB, zC, i64_w, i32_w]
          rfl
         refine one_ (i := 7) (N := some 10) #[true, true, true, true, true, true, true, true, false] rfl rfl (one_of HT_.out (by kernel_rfl)) (by decide) (fun K hK => ?_)
         refine box_step ?hg (N := 10) ?hd (cs := #[.int .i64 0, .int .i64 0, .slice none 0 0, .slice none 0 0]) (t := 25) ?hr ?_; (case hd => rfl); (case hg => rfl); (case hr => first | (go_simp; done) | (go_simp; rfl))
         intro gb512 hg w42 hbox hb
         have n0_ := yA (yK (mR HO511.out) hb)
         have n1_ := yA (yU (mK BK505.out) hb)
         have n2_ := yA (yU (mK BK506.out) hb)
         have n3_ := yA (zD (by with_reducible repeat first | exact HB.out | apply yO | apply yN | apply yP | refine yQ ?_ GE505.out | refine yQ ?_ GE506.out) hb)
         have n4_ := yA (hbox)
         have n5_ := yA ((by rw [hg]; exact (yX (by with_reducible repeat first | exact HB.out | apply yO | apply yN | apply yP | refine yQ ?_ GE505.out | refine yQ ?_ GE506.out)) : w.heap.size ≤ gb512))
         have n6_ := yA ((by rw [hg]; exact (yX (by with_reducible repeat first | exact HB.out | apply yO | apply yN | apply yP | refine yQ ?_ GE505.out | refine yQ ?_ GE506.out)) : w.heap.size ≤ gb512))
         have n7_ := yA ((by rw [hg]; exact Nat.ne_of_lt (zX (mK BK505.out)) : gb505 ≠ gb512))
         have n8_ := yA ((by rw [hg]; exact Nat.ne_of_gt (zX (mK BK505.out)) : gb512 ≠ gb505))
         have n9_ := yA ((by rw [hg]; exact Nat.ne_of_lt (zX (mK BK506.out)) : gb506 ≠ gb512))
         have n10_ := yA ((by rw [hg]; exact Nat.ne_of_gt (zX (mK BK506.out)) : gb512 ≠ gb506))
         clear HO511 BK505 BK506 HB
         have HO511 := n0_
         have BK505 := n1_
         have BK506 := n2_
         have HB := n3_
         have BK512 := n4_
         have GW512 := n5_
         have GE512 := n6_
         have NB505_512 := n7_
         have NB512_505 := n8_
         have NB506_512 := n9_
         have NB512_506 := n10_
         clear n0_ n1_ n2_ n3_ n4_ n5_ n6_ n7_ n8_ n9_ n10_ hb hbox hg
         refine hK.out _ _ ⟨(yV BK505.out 0).trans rfl, (yV BK505.out 1).trans rfl, (yV BK505.out 2).trans rfl, (yV BK505.out 3).trans rfl⟩ (fun hHeld => ?_)
         clear hK K
         refine norm_ (a' := ?_) ?_ ?_
         rotate_left
         ·show Act.put _ (some 10) _ = _
          simp only [Act.put, zA, zB, zC, i64_w, i32_w]
          rfl
         exact norm_ (by simp only [putAll, Act.put, zA, zB, zC]) (hCont (.slice Ao41 t509.length co41, gb512) _ ⟨hHeld, (mR HO511.out), (mK BK505.out), (mK BK506.out), (mK BK512.out), GW512.out, GE512.out, NB505_512.out, NB512_505.out, NB506_512.out, NB512_506.out, (by with_reducible repeat first | exact HB.out | apply yO | apply yN | apply yP | refine yQ ?_ GE505.out | refine yQ ?_ GE506.out | refine yQ ?_ GE512.out)⟩)
        ·skip
         refine box_step ?hg (N := 10) ?hd (cs := #[.int .i64 0, .int .i64 0, .slice none 0 0, .slice none 0 0]) (t := 25) ?hr ?_; (case hd => rfl); (case hg => rfl); (case hr => first | (go_simp; done) | (go_simp; rfl))
         intro gb512 hg w40 hbox hb
         have n0_ := yA (yU (mK BK505.out) hb)
         have n1_ := yA (yU (mK BK506.out) hb)
         have n2_ := yA (zD (by with_reducible repeat first | exact HB.out | apply yO | apply yN | apply yP | refine yQ ?_ GE505.out | refine yQ ?_ GE506.out) hb)
         have n3_ := yA (hbox)
         have n4_ := yA ((by rw [hg]; exact (yX (by with_reducible repeat first | exact HB.out | apply yO | apply yN | apply yP | refine yQ ?_ GE505.out | refine yQ ?_ GE506.out)) : w.heap.size ≤ gb512))
         have n5_ := yA ((by rw [hg]; exact (yX (by with_reducible repeat first | exact HB.out | apply yO | apply yN | apply yP | refine yQ ?_ GE505.out | refine yQ ?_ GE506.out)) : w.heap.size ≤ gb512))
         have n6_ := yA ((by rw [hg]; exact Nat.ne_of_lt (zX (mK BK505.out)) : gb505 ≠ gb512))
         have n7_ := yA ((by rw [hg]; exact Nat.ne_of_gt (zX (mK BK505.out)) : gb512 ≠ gb505))
         have n8_ := yA ((by rw [hg]; exact Nat.ne_of_lt (zX (mK BK506.out)) : gb506 ≠ gb512))
         have n9_ := yA ((by rw [hg]; exact Nat.ne_of_gt (zX (mK BK506.out)) : gb512 ≠ gb506))
         clear BK505 BK506 HB
         have BK505 := n0_
         have BK506 := n1_
         have HB := n2_
         have BK512 := n3_
         have GW512 := n4_
         have GE512 := n5_
         have NB505_512 := n6_
         have NB512_505 := n7_
         have NB506_512 := n8_
         have NB512_506 := n9_
         clear n0_ n1_ n2_ n3_ n4_ n5_ n6_ n7_ n8_ n9_ hb hbox hg
         refine hK.out _ _ ⟨(yV BK505.out 0).trans rfl, (yV BK505.out 1).trans rfl, (yV BK505.out 2).trans rfl, (yV BK505.out 3).trans rfl⟩ (fun hHeld => ?_)
         clear hK K
         refine norm_ (a' := ?_) ?_ ?_
         rotate_left
         ·show Act.put _ (some 10) _ = _
          simp only [Act.put, zA, zB, zC, i64_w, i32_w]
          rfl
         refine one_ (i := 5) (N := some 58) #[true, true, true, true, true, true, false, true, false] rfl rfl (one_of HT_.out (by kernel_rfl)) (by decide) (fun K hK => ?_)
         refine goes_ Try.func89 (by kernel_rfl) rfl #[.slice A0_3 l0_3.length c0_3] (by rfl) rfl rfl (by (try simp only [zI, zJ, zK]); first | done | rfl | (simp only [zL, zM]; rfl)) ?_
         with_reducible refine (slices_Clone_bool_bool.calls _ _ l0_3 t509 _ ?side1 ?side2 A38.out).mono ?_
         (case side1 => exact mC (yM HR0_3.out HB.out))
         (case side2 => exact HC0_3.out)
         rintro e w41 ⟨v510, rfl, ho0, hb⟩
         refine ⟨_, rfl, ?_⟩
         have HO511 := yA (Kd.R_lower ho0 (yX (by with_reducible repeat first | exact HB.out | apply yO | apply yN | apply yP | refine yQ ?_ GE505.out | refine yQ ?_ GE506.out | refine yQ ?_ GE512.out)))
         replace BK505 := yA (yU (mK BK505.out) hb)
         replace BK506 := yA (yU (mK BK506.out) hb)
         replace BK512 := yA (yU (mK BK512.out) hb)
         replace HB := yA (zD (by with_reducible repeat first | exact HB.out | apply yO | apply yN | apply yP | refine yQ ?_ GE505.out | refine yQ ?_ GE506.out | refine yQ ?_ GE512.out) hb)
         (try clear hb)
         (try clear hb2)
         (try clear hk)
         (try clear hi)
         (try clear ho0)
         obtain ⟨Ao42, co42, eo42⟩ := Kd.R_slice HO511.out
         (first | subst eo42 | (injection eo42 with f1_ f2_ f3_; have f4_ := f1_.symm; have f5_ := f3_.symm; clear f1_ f2_ f3_; subst f4_; subst f5_))
         refine hK.out _ _ ⟨(yV BK505.out 0).trans rfl, (yV BK505.out 1).trans rfl, (yV BK505.out 2).trans rfl, (yV BK505.out 3).trans rfl⟩ (fun hHeld => ?_)
         clear hK K
         refine norm_ (a' := ?_) ?_ ?_
         rotate_left
         ·show Act.put _ (some 58) _ = _
          simp only [Act.put, zA, zB, zC, i64_w, i32_w]
          rfl
         refine pure_ (i := 6) (N := some 59) (v := ?_) (a' := ?_) #[true, true, true, true, true, true, true, true, false] rfl rfl (any_of HT_.out (by kernel_rfl)) (fun _ _ _ h => h) (Or.inl ⟨by rfl, ?_⟩) ?_ ?_
         rotate_left
         ·intro w'
          go_simp
          with_reducible rfl
         rotate_left
         ·simp only [Act.put, zA, zB, zC, i64_w, i32_w]
          rfl
         exact norm_ (by simp only [putAll, Act.put, zA, zB, zC]) (hCont (.slice Ao42 t509.length co42, gb512) _ ⟨hHeld, (mR HO511.out), (mK BK505.out), (mK BK506.out), (mK BK512.out), GW512.out, GE512.out, NB505_512.out, NB512_505.out, NB506_512.out, NB512_506.out, (by with_reducible repeat first | exact HB.out | apply yO | apply yN | apply yP | refine yQ ?_ GE505.out | refine yQ ?_ GE506.out | refine yQ ?_ GE512.out)⟩)
       rintro ⟨v510, gb512⟩ w43 ⟨hS_, h0_, h1_, h2_, h3_, h4_, h5_, h6_, h7_, h8_, h9_, h10_⟩
       have n0_ : Aside0 (Kd.R Kd.bool 4 w43 w.heap.size (fun _ => True) v510 t509) := ⟨h0_⟩
       have n1_ : Aside0 (w43.heap[gb505]? = some (.cells #[.int .i64 a0_0, .int .i64 a0_1, .slice A0_2 l0_2.length c0_2, .slice A0_3 l0_3.length c0_3] 25 (0, 0))) := ⟨h1_⟩
       have n2_ : Aside0 (w43.heap[gb506]? = some (.cells #[.int .i64 x507000_2, .int .i64 x507001_2, .slice none 0 0, .slice none 0 0] 25 (0, 0))) := ⟨h2_⟩
       have n3_ : Aside0 (w43.heap[gb512]? = some (.cells #[.int .i64 0, .int .i64 0, .slice none 0 0, .slice none 0 0] 25 (0, 0))) := ⟨h3_⟩
       have n4_ : Aside0 (w.heap.size ≤ gb512) := ⟨h4_⟩
       have n5_ : Aside0 (w.heap.size ≤ gb512) := ⟨h5_⟩
       have n6_ : Aside0 (gb505 ≠ gb512) := ⟨h6_⟩
       have n7_ : Aside0 (gb512 ≠ gb505) := ⟨h7_⟩
       have n8_ : Aside0 (gb506 ≠ gb512) := ⟨h8_⟩
       have n9_ : Aside0 (gb512 ≠ gb506) := ⟨h9_⟩
       have n10_ : Aside0 (Below w.heap.size w w43) := ⟨h10_⟩
       clear BK505 BK506 HB h0_ h1_ h2_ h3_ h4_ h5_ h6_ h7_ h8_ h9_ h10_
       have HO511 := n0_
       have BK505 := n1_
       have BK506 := n2_
       have BK512 := n3_
       have GW512 := n4_
       have GE512 := n5_
       have NB505_512 := n6_
       have NB512_505 := n7_
       have NB506_512 := n8_
       have NB512_506 := n9_
       have HB := n10_
       clear n0_ n1_ n2_ n3_ n4_ n5_ n6_ n7_ n8_ n9_ n10_
       have hHeld : w43.cell? ⟨gb505, 0, none⟩ = some (.int .i64 a0_0) ∧ w43.cell? ⟨gb505, 1, none⟩ = some (.int .i64 a0_1) ∧ w43.cell? ⟨gb505, 2, none⟩ = some (.slice A0_2 l0_2.length c0_2) ∧ w43.cell? ⟨gb505, 3, none⟩ = some (.slice A0_3 l0_3.length c0_3) := hS_
       obtain ⟨Ao44, co44, eo44⟩ := Kd.R_slice HO511.out
       (first | subst eo44 | (injection eo44 with f1_ f2_ f3_; have f4_ := f1_.symm; have f5_ := f3_.symm; clear f1_ f2_ f3_; subst f4_; subst f5_))
       refine norm_ (a' := ?_) ?_ ?_
       rotate_left
       ·simp only [putAll, Act.put, zA, zB, zC]
        rfl
       refine one_ (i := 8) (N := none) #[true, true, true, true, true, true, true, true, true] rfl rfl (one_of HT_.out (by kernel_rfl)) (by decide) (fun K hK => ?_)
       have hs45 : w43.cell? ⟨gb512, 0, none⟩ = some (.int .i64 0) := (yV BK512.out 0).trans rfl
       have hfs45 := yW BK512.out 0
       have hns45_0 := NB505_512.out
       have hns45_1 := NB506_512.out
       have hms45_0 := NB512_505.out
       have hms45_1 := NB512_506.out
       have hs46 : w43.cell? ⟨gb512, 1, none⟩ = some (.int .i64 0) := (yV BK512.out 1).trans rfl
       have hfs46 := yW BK512.out 1
       have hns46_0 := NB505_512.out
       have hns46_1 := NB506_512.out
       have hms46_0 := NB512_505.out
       have hms46_1 := NB512_506.out
       have hs47 : w43.cell? ⟨gb512, 2, none⟩ = some (.slice none 0 0) := (yV BK512.out 2).trans rfl
       have hfs47 := yW BK512.out 2
       have hns47_0 := NB505_512.out
       have hns47_1 := NB506_512.out
       have hms47_0 := NB512_505.out
       have hms47_1 := NB512_506.out
       have hs48 : w43.cell? ⟨gb512, 3, none⟩ = some (.slice none 0 0) := (yV BK512.out 3).trans rfl
       have hfs48 := yW BK512.out 3
       have hns48_0 := NB505_512.out
       have hns48_1 := NB506_512.out
       have hms48_0 := NB512_505.out
       have hms48_1 := NB512_506.out
       refine skip_ (w1 := ?_) (by rfl) rfl ?_ ?_
       rotate_left
       ·go_simp
        rfl
       refine hK.out _ _ ⟨((cell_far (p := ⟨gb512, _, none⟩) NB505_512.out _).trans (((cell_far (p := ⟨gb512, _, none⟩) NB505_512.out _).trans (((cell_far (p := ⟨gb512, _, none⟩) NB505_512.out _).trans (((cell_far (p := ⟨gb512, _, none⟩) NB505_512.out _).trans (hHeld.1)))))))), ((cell_far (p := ⟨gb512, _, none⟩) NB505_512.out _).trans (((cell_far (p := ⟨gb512, _, none⟩) NB505_512.out _).trans (((cell_far (p := ⟨gb512, _, none⟩) NB505_512.out _).trans (((cell_far (p := ⟨gb512, _, none⟩) NB505_512.out _).trans (hHeld.2.1)))))))), ((cell_far (p := ⟨gb512, _, none⟩) NB505_512.out _).trans (((cell_far (p := ⟨gb512, _, none⟩) NB505_512.out _).trans (((cell_far (p := ⟨gb512, _, none⟩) NB505_512.out _).trans (((cell_far (p := ⟨gb512, _, none⟩) NB505_512.out _).trans (hHeld.2.2.1)))))))), ((cell_far (p := ⟨gb512, _, none⟩) NB505_512.out _).trans (((cell_far (p := ⟨gb512, _, none⟩) NB505_512.out _).trans (((cell_far (p := ⟨gb512, _, none⟩) NB505_512.out _).trans (((cell_far (p := ⟨gb512, _, none⟩) NB505_512.out _).trans (hHeld.2.2.2))))))))⟩ (fun hHeld => ?_)
       clear hK K
       refine done_ (done_of HT_.out (by kernel_rfl)) ?_
       have hnb49 := NB505_506.out
       have hnc49 := NB506_505.out
       have hnb50 := NB505_512.out
       have hnc50 := NB512_505.out
       obtain ⟨hcz51_0, hcz51_1, hcz51_2, hcz51_3⟩ := cz4 BK505.out
       obtain ⟨hfz51_0, hfz51_1, hfz51_2, hfz51_3⟩ := fz4 BK505.out
       try go_wp2
       go_loopg [63] k2 (fun kq v63 w' => ∃ (x63_3 : Int) (x513002_3 : List (List Int)) (u513002 : Value), v63 = .int .i64 x63_3 ∧ Aside0 (impl_RenameTracks.l1 kq l1 a2 l0_2 (l0_2.length : Int) x63_3 a0_0 a0_1 l0_2 l0_3 a0_0 a2 x513002_3 t509 = some (r1, r2, r3, r4, r5)) ∧ Aside0 (kq ≤ k2) ∧ Aside0 (Kd.S (Kd.slice 3 (Kd.int .i64)) 38 w' w.heap.size (fun _ => True) u513002 x513002_3) ∧ Aside0 (Kd.R Kd.bool 4 w' w.heap.size (fun _ => True) (.slice Ao44 t509.length co44) t509) ∧ Aside0 (w'.heap[gb505]? = some (.cells #[.int .i64 a0_0, .int .i64 a0_1, (.slice A0_2 l0_2.length c0_2), (.slice A0_3 l0_3.length c0_3)] 25 (0, 0))) ∧ Aside0 (w'.heap[gb506]? = some (.cells #[.int .i64 x507000_2, .int .i64 x507001_2, (.slice none 0 0), (.slice none 0 0)] 25 (0, 0))) ∧ Aside0 (w'.heap[gb512]? = some (.cells #[.int .i64 a0_0, .int .i64 a2, u513002, (.slice Ao44 t509.length co44)] 25 (0, 0))) ∧ Aside0 (Below w.heap.size w w'))
       case atStart => exact ⟨(0), (([] : List (List Int))), (.slice none 0 0), (by first | rfl | (simp; done) | (simp [*]; done)), H', ⟨zT _⟩, ⟨by first | exact Kd.S_nil _ _ _ _ _ | exact Kd.N_nil _ _ _ _ _ | exact Kd.V_nil _ _ _ _ _ | exact Kd.Q_nil _ _ _ _ _ | exact Kd.R_nil _ _ _ _ _⟩, ⟨by (with_reducible repeat (first | apply yB | apply yC | apply yD)); exact zP (zQ (p := ⟨gb512, 3, none⟩) (zQ (p := ⟨gb512, 2, none⟩) (zQ (p := ⟨gb512, 1, none⟩) (zQ (p := ⟨gb512, 0, none⟩) (zR HO511.out BK512.out (by decide)) (fun _ hk => hk.2) (.int .i64 a0_0)) (fun _ hk => hk.2) (.int .i64 a2)) (fun _ hk => hk.2) (.slice none 0 0)) (fun _ hk => hk.2) (.slice Ao44 t509.length co44)) (fun _ hk => trivial)⟩, ⟨by (with_reducible repeat (first | refine yS ?_ _ | refine yT ?_ | refine yR ?_ _)); refine blk_far ?_ NB505_512.out _; (with_reducible repeat (first | refine yS ?_ _ | refine yT ?_ | refine yR ?_ _)); refine blk_far ?_ NB505_512.out _; (with_reducible repeat (first | refine yS ?_ _ | refine yT ?_ | refine yR ?_ _)); refine blk_far ?_ NB505_512.out _; (with_reducible repeat (first | refine yS ?_ _ | refine yT ?_ | refine yR ?_ _)); refine blk_far ?_ NB505_512.out _; (with_reducible repeat (first | refine yS ?_ _ | refine yT ?_ | refine yR ?_ _)); exact BK505.out⟩, ⟨by (with_reducible repeat (first | refine yS ?_ _ | refine yT ?_ | refine yR ?_ _)); refine blk_far ?_ NB506_512.out _; (with_reducible repeat (first | refine yS ?_ _ | refine yT ?_ | refine yR ?_ _)); refine blk_far ?_ NB506_512.out _; (with_reducible repeat (first | refine yS ?_ _ | refine yT ?_ | refine yR ?_ _)); refine blk_far ?_ NB506_512.out _; (with_reducible repeat (first | refine yS ?_ _ | refine yT ?_ | refine yR ?_ _)); refine blk_far ?_ NB506_512.out _; (with_reducible repeat (first | refine yS ?_ _ | refine yT ?_ | refine yR ?_ _)); exact BK506.out⟩, ⟨by (with_reducible repeat (first | refine yS ?_ _ | refine yT ?_ | refine yR ?_ _)); refine blk_put (cs := #[.int .i64 a0_0, .int .i64 a2, .slice none 0 0, .slice none 0 0]) ?_ 3 _ rfl; (with_reducible repeat (first | refine yS ?_ _ | refine yT ?_ | refine yR ?_ _)); refine blk_put (cs := #[.int .i64 a0_0, .int .i64 a2, .slice none 0 0, .slice none 0 0]) ?_ 2 _ rfl; (with_reducible repeat (first | refine yS ?_ _ | refine yT ?_ | refine yR ?_ _)); refine blk_put (cs := #[.int .i64 a0_0, .int .i64 0, .slice none 0 0, .slice none 0 0]) ?_ 1 _ rfl; (with_reducible repeat (first | refine yS ?_ _ | refine yT ?_ | refine yR ?_ _)); refine blk_put (cs := #[.int .i64 0, .int .i64 0, .slice none 0 0, .slice none 0 0]) ?_ 0 _ rfl; (with_reducible repeat (first | refine yS ?_ _ | refine yT ?_ | refine yR ?_ _)); exact BK512.out⟩, ⟨by repeat (first | (with_reducible first | exact HB.out | apply yO | apply yN | apply yP | refine yQ ?_ GE505.out | refine yQ ?_ GE506.out | refine yQ ?_ GE512.out) | exact HB.out)⟩⟩
       case round =>
        clear H'
        (try clear c1);(try clear c2);(try clear p2);(try clear c3);(try clear c4);(try clear c5);(try clear p5);(try clear q5);(try clear hx5);(try clear c6);(try clear p6);(try clear c8);(try clear c9);(try clear c9b0);(try clear c9b1);(try clear c10);(try clear c10b0);(try clear c11);(try clear c15);(try clear c19);(try clear c23);(try clear c26);(try clear c27);(try clear c29);(try clear c29b0);(try clear c30);(try clear c30b0);(try clear c31);(try clear c31b0);(try clear c32);(try clear c32b0);(try clear c33);(try clear c35);(try clear c35b0);(try clear c36);(try clear c49);(try clear c50);(try clear p50);(try clear q50);(try clear hx50);(try clear hcz12_0);(try clear hcz12_1);(try clear hcz12_2);(try clear hcz12_3);(try clear hcz14_0);(try clear hcz14_1);(try clear hcz14_2);(try clear hcz14_3);(try clear hcz16_0);(try clear hcz16_1);(try clear hcz16_2);(try clear hcz16_3);(try clear hcz18_0);(try clear hcz18_1);(try clear hcz18_2);(try clear hcz18_3);(try clear hcz20_0);(try clear hcz20_1);(try clear hcz20_2);(try clear hcz20_3);(try clear hcz22_0);(try clear hcz22_1);(try clear hcz22_2);(try clear hcz22_3);(try clear hcz24_0);(try clear hcz24_1);(try clear hcz24_2);(try clear hcz24_3);(try clear hcz28_0);(try clear hcz28_1);(try clear hcz28_2);(try clear hcz28_3);(try clear hcz34_0);(try clear hcz34_1);(try clear hcz34_2);(try clear hcz34_3);(try clear hcz37_0);(try clear hcz37_1);(try clear hcz37_2);(try clear hcz37_3);(try clear hcz51_0);(try clear hcz51_1);(try clear hcz51_2);(try clear hcz51_3);(try clear hfz12_0);(try clear hfz12_1);(try clear hfz12_2);(try clear hfz12_3);(try clear hfz14_0);(try clear hfz14_1);(try clear hfz14_2);(try clear hfz14_3);(try clear hfz16_0);(try clear hfz16_1);(try clear hfz16_2);(try clear hfz16_3);(try clear hfz18_0);(try clear hfz18_1);(try clear hfz18_2);(try clear hfz18_3);(try clear hfz20_0);(try clear hfz20_1);(try clear hfz20_2);(try clear hfz20_3);(try clear hfz22_0);(try clear hfz22_1);(try clear hfz22_2);(try clear hfz22_3);(try clear hfz24_0);(try clear hfz24_1);(try clear hfz24_2);(try clear hfz24_3);(try clear hfz28_0);(try clear hfz28_1);(try clear hfz28_2);(try clear hfz28_3);(try clear hfz34_0);(try clear hfz34_1);(try clear hfz34_2);(try clear hfz34_3);(try clear hfz37_0);(try clear hfz37_1);(try clear hfz37_2);(try clear hfz37_3);(try clear hfz51_0);(try clear hfz51_1);(try clear hfz51_2);(try clear hfz51_3);(try clear hx508_0);(try clear p2);(try clear p508);(try clear q508)
        obtain ⟨x63_3, x513002_3, u513002, rfl, HA, HK3, HO_513002, HO_513003, BK505, BK506, BK512, HB⟩ := hrel
        cases gk with
        | zero => exact absurd HA.out (by simp [impl_RenameTracks.l1])
        | succ k3 =>
         have H := HA.out
         clear HA
         simp only [impl_RenameTracks.l1] at H
         by_cases c52 : x63_3 < (l0_2.length : Int)
         ·rw [if_pos c52] at H
          have c52b0 : decide (x63_3 < (l0_2.length : Int)) = true := zH c52
          clear c52
          obtain ⟨c53, H⟩ := iP H
          have c53b0 : decide (0 ≤ x63_3) = true := zH c53
          clear c53
          obtain ⟨c54, H⟩ := iP H
          have c54b0 : decide (x63_3 < (l0_2.length : Int)) = true := zH c54
          clear c54
          (first | ((with_reducible replace H := bS H); obtain ⟨y522, Ny522, H⟩ := H) | (obtain ⟨y522, Ny522⟩ : ∃ y_ : List Int, y_ = (([] : List Int)) := ⟨_, rfl⟩; rw [← Ny522] at H; replace Ny522 := yA Ny522))
          obtain ⟨t525, A55, H⟩ := bE H
          have H' := yA H
          clear H
          have p521 : 0 ≤ (x63_3 : Int) := zG (by assumption)
          have q521 : x63_3 < (l0_2.length : Int) := zG (by assumption)
          obtain ⟨ad521, A521_0, c521_0, e521, hx521_0, hl521_0, hi521_0⟩ := at_L1 HR0_2.out x63_3 p521 q521
          cases e521
          try replace hx521_0 := (HB.out.cell (zE w _ hx521_0)).trans hx521_0
          have HR521_0 := yA hi521_0
          have HC521_0 := yA hl521_0
          clear hi521_0 hl521_0
          replace p521 := eq_true p521
          replace q521 := eq_true q521
          go_wp2_with (first | ((with_reducible refine gate_dst (N := 67) rfl ?_); refine Kd.R_lit (Kd.int .i64) _ 3 ?hg (N := 67) ?hd (xs := ([] : List Int)) (inner := []) (ok := fun _ => True) (okp := fun _ => True) ?hr ?hp (fun _ hk => hk) trivial (zV _ _) (zT _) (by simp) ?_; (case hd => rfl); (case hg => rfl); (case hr => first | (go_simp; done) | (go_simp; rfl)); (case hp => exact (Reps.none _ _)); intro v523 w56 ho57 hb hg_ hnew_; clear hg_ hnew_; (first | rw [← Ny522.out] at ho57 | (simp only [Int.reduceToNat] at ho57; rw [← Ny522.out] at ho57)); replace HO_513002 := yA (Kd.S_elder' (mS HO_513002.out) (yY ho57) hb); replace HO_513003 := yA (yK (mR HO_513003.out) hb); have HO524 := yA (Kd.R_lower ho57 (yX (by with_reducible repeat first | exact HB.out | apply yO | apply yN | apply yP | refine yQ ?_ GE505.out | refine yQ ?_ GE506.out | refine yQ ?_ GE512.out))); replace BK505 := yA (yU (mK BK505.out) hb); replace BK506 := yA (yU (mK BK506.out) hb); replace BK512 := yA (yU (mK BK512.out) hb); replace HB := yA (zD (by with_reducible repeat first | exact HB.out | apply yO | apply yN | apply yP | refine yQ ?_ GE505.out | refine yQ ?_ GE506.out | refine yQ ?_ GE512.out) hb); clear hb ho57; have hnb58 := NB505_506.out; have hnc58 := NB506_505.out; have hnb59 := NB505_512.out; have hnc59 := NB512_505.out; have hcz60_0 : w56.cell? ⟨gb505, 0, none⟩ = some (.int .i64 a0_0) := (yV BK505.out 0).trans rfl; have hcz60_1 : w56.cell? ⟨gb505, 1, none⟩ = some (.int .i64 a0_1) := (yV BK505.out 1).trans rfl; have hcz60_2 : w56.cell? ⟨gb505, 2, none⟩ = some (.slice (some ad521) l0_2.length c0_2) := (yV BK505.out 2).trans rfl; have hcz60_3 : w56.cell? ⟨gb505, 3, none⟩ = some (.slice A0_3 l0_3.length c0_3) := (yV BK505.out 3).trans rfl; have hfz60_0 := yW BK505.out 0; have hfz60_1 := yW BK505.out 1; have hfz60_2 := yW BK505.out 2; have hfz60_3 := yW BK505.out 3) | ((with_reducible refine zS (f := 90) rfl ?_); refine goesL_ (some 71) rfl rfl Try.func90 (by kernel_rfl) rfl #[.int .i64 a0_0, .int .i64 a2] rfl (by (try simp only [zI, zJ, zK]); first | done | rfl | (simp only [zL, zM]; rfl)) ?_; (with_reducible refine (impl_power.calls k3 a0_0 a2 t525 _ A55.out).mono ?_); rintro e w' ⟨rfl, ⟨nd, rfl⟩⟩; refine ⟨_, rfl, ?_⟩))
          go_loopg [13, 72] k3 (fun kq v13 v72 w' => ∃ (x13_4 : List Int) (x72_4 : Int), v72 = .int .i64 x72_4 ∧ Aside0 (impl_RenameTracks.l2 kq l1 a2 (rd_L1 l0_2 x63_3) x13_4 l0_2 (l0_2.length : Int) x63_3 t525 x72_4 a0_0 a0_1 l0_2 l0_3 a0_0 a2 x513002_3 t509 = some (r1, r2, r3, r4, r5)) ∧ Aside0 (kq ≤ k3) ∧ Aside0 (Kd.R (Kd.int .i64) 3 w' w.heap.size (fun _ => True) v13 x13_4) ∧ Aside0 (Kd.S (Kd.slice 3 (Kd.int .i64)) 38 w' w.heap.size (fun k_ => some k_ ≠ (v13 : Value).ownBlock) u513002 x513002_3) ∧ Aside0 (Kd.R Kd.bool 4 w' w.heap.size (fun _ => True) (.slice Ao44 t509.length co44) t509) ∧ Aside0 (w'.heap[gb505]? = some (.cells #[.int .i64 a0_0, .int .i64 a0_1, (.slice (some ad521) l0_2.length c0_2), (.slice A0_3 l0_3.length c0_3)] 25 (0, 0))) ∧ Aside0 (w'.heap[gb506]? = some (.cells #[.int .i64 x507000_2, .int .i64 x507001_2, (.slice none 0 0), (.slice none 0 0)] 25 (0, 0))) ∧ Aside0 (w'.heap[gb512]? = some (.cells #[.int .i64 a0_0, .int .i64 a2, u513002, (.slice Ao44 t509.length co44)] 25 (0, 0))) ∧ Aside0 (Below w.heap.size w w'))
          case atStart => exact ⟨(y522), (0), (by first | rfl | (simp; done) | (simp [*]; done)), H', ⟨zT _⟩, ⟨mR HO524.out⟩, ⟨by (with_reducible repeat (first | apply yH | apply yI | apply yJ)); exact Kd.S_mono HO_513002.out (fun _ hk => hk.2)⟩, ⟨mR HO_513003.out⟩, ⟨mK BK505.out⟩, ⟨mK BK506.out⟩, ⟨mK BK512.out⟩, ⟨by repeat (first | (with_reducible first | exact HB.out | apply yO | apply yN | apply yP | refine yQ ?_ GE505.out | refine yQ ?_ GE506.out | refine yQ ?_ GE512.out) | exact HB.out)⟩⟩
          case round =>
           clear H'
           (try clear c1);(try clear c2);(try clear p2);(try clear c3);(try clear c4);(try clear c5);(try clear p5);(try clear q5);(try clear hx5);(try clear c6);(try clear p6);(try clear c8);(try clear c9);(try clear c9b0);(try clear c9b1);(try clear c10);(try clear c10b0);(try clear c11);(try clear c15);(try clear c19);(try clear c23);(try clear c26);(try clear c27);(try clear c29);(try clear c29b0);(try clear c30);(try clear c30b0);(try clear c31);(try clear c31b0);(try clear c32);(try clear c32b0);(try clear c33);(try clear c35);(try clear c35b0);(try clear c36);(try clear c49);(try clear c50);(try clear p50);(try clear q50);(try clear hx50);(try clear c52);(try clear c52b0);(try clear p52);(try clear q52);(try clear hx52);(try clear c53);(try clear c53b0);(try clear c54);(try clear c54b0);(try clear c58);(try clear c59);(try clear hcz12_0);(try clear hcz12_1);(try clear hcz12_2);(try clear hcz12_3);(try clear hcz14_0);(try clear hcz14_1);(try clear hcz14_2);(try clear hcz14_3);(try clear hcz16_0);(try clear hcz16_1);(try clear hcz16_2);(try clear hcz16_3);(try clear hcz18_0);(try clear hcz18_1);(try clear hcz18_2);(try clear hcz18_3);(try clear hcz20_0);(try clear hcz20_1);(try clear hcz20_2);(try clear hcz20_3);(try clear hcz22_0);(try clear hcz22_1);(try clear hcz22_2);(try clear hcz22_3);(try clear hcz24_0);(try clear hcz24_1);(try clear hcz24_2);(try clear hcz24_3);(try clear hcz28_0);(try clear hcz28_1);(try clear hcz28_2);(try clear hcz28_3);(try clear hcz34_0);(try clear hcz34_1);(try clear hcz34_2);(try clear hcz34_3);(try clear hcz37_0);(try clear hcz37_1);(try clear hcz37_2);(try clear hcz37_3);(try clear hcz51_0);(try clear hcz51_1);(try clear hcz51_2);(try clear hcz51_3);(try clear hcz60_0);(try clear hcz60_1);(try clear hcz60_2);(try clear hcz60_3);(try clear hfz12_0);(try clear hfz12_1);(try clear hfz12_2);(try clear hfz12_3);(try clear hfz14_0);(try clear hfz14_1);(try clear hfz14_2);(try clear hfz14_3);(try clear hfz16_0);(try clear hfz16_1);(try clear hfz16_2);(try clear hfz16_3);(try clear hfz18_0);(try clear hfz18_1);(try clear hfz18_2);(try clear hfz18_3);(try clear hfz20_0);(try clear hfz20_1);(try clear hfz20_2);(try clear hfz20_3);(try clear hfz22_0);(try clear hfz22_1);(try clear hfz22_2);(try clear hfz22_3);(try clear hfz24_0);(try clear hfz24_1);(try clear hfz24_2);(try clear hfz24_3);(try clear hfz28_0);(try clear hfz28_1);(try clear hfz28_2);(try clear hfz28_3);(try clear hfz34_0);(try clear hfz34_1);(try clear hfz34_2);(try clear hfz34_3);(try clear hfz37_0);(try clear hfz37_1);(try clear hfz37_2);(try clear hfz37_3);(try clear hfz51_0);(try clear hfz51_1);(try clear hfz51_2);(try clear hfz51_3);(try clear hfz60_0);(try clear hfz60_1);(try clear hfz60_2);(try clear hfz60_3);(try clear hx508_0);(try clear hx521_0);(try clear p2);(try clear p5);(try clear p50);(try clear p508);(try clear p521);(try clear p6);(try clear q5);(try clear q50);(try clear q508);(try clear q521)
           obtain ⟨x13_4, x72_4, rfl, HA, HK4, HO_13, HO_513002, HO_513003, BK505, BK506, BK512, HB⟩ := hrel
           cases gk with
           | zero => exact absurd HA.out (by simp [impl_RenameTracks.l2])
           | succ k4 =>
            have H := HA.out
            clear HA
            simp only [impl_RenameTracks.l2] at H
            by_cases c61 : x72_4 < t525
            ·rw [if_pos c61] at H
             have c61b0 : decide (x72_4 < t525) = true := zH c61
             clear c61
             obtain ⟨t529, A62, H⟩ := bE H
             (first | ((with_reducible replace H := bS H); obtain ⟨y532, Ny532, H⟩ := H) | (obtain ⟨y532, Ny532⟩ : ∃ y_ : List Int, y_ = (([] : List Int)) := ⟨_, rfl⟩; rw [← Ny532] at H; replace Ny532 := yA Ny532))
             have H' := yA H
             clear H
             have hnb63 := NB505_506.out
             have hnc63 := NB506_505.out
             have hnb64 := NB505_512.out
             have hnc64 := NB512_505.out
             obtain ⟨hcz65_0, hcz65_1, hcz65_2, hcz65_3⟩ := cz4 BK505.out
             obtain ⟨hfz65_0, hfz65_1, hfz65_2, hfz65_3⟩ := fz4 BK505.out
             go_wp2_with (first | ((with_reducible refine zS (f := 91) rfl ?_); refine goesL_ (some 79) rfl rfl Try.func91 (by kernel_rfl) rfl #[.int .i64 a0_0, .int .i64 a2, .int .i64 x72_4] rfl (by (try simp only [zI, zJ, zK]); first | done | rfl | (simp only [zL, zM]; rfl)) ?_; (with_reducible refine (impl_tracksOf.calls k4 a0_0 a2 x72_4 t529 _ A62.out).mono ?_); rintro e w66 ⟨v530, rfl, ho0, hb⟩; refine ⟨_, rfl, ?_⟩; replace HO_513002 := yA (Kd.S_elder' (mS HO_513002.out) (yY ho0) hb); replace HO_513003 := yA (yK (mR HO_513003.out) hb); have HO531 := yA (Kd.R_lower (Kd.R_new' ho0 (yZ (mR HO_13.out))) (yX (by with_reducible repeat first | exact HB.out | apply yO | apply yN | apply yP | refine yQ ?_ GE505.out | refine yQ ?_ GE506.out | refine yQ ?_ GE512.out))); replace HO_13 := yA (zO (mR HO_13.out) (yY ho0) hb); replace BK505 := yA (yU (mK BK505.out) hb); replace BK506 := yA (yU (mK BK506.out) hb); replace BK512 := yA (yU (mK BK512.out) hb); replace HB := yA (zD (by with_reducible repeat first | exact HB.out | apply yO | apply yN | apply yP | refine yQ ?_ GE505.out | refine yQ ?_ GE506.out | refine yQ ?_ GE512.out) hb); (try clear hb); (try clear hb2); (try clear hk); (try clear hi); (try clear ho0)) | ((with_reducible refine gate_dst (N := 80) rfl ?_); refine Kd.R_lit (Kd.int .i64) _ 3 ?hg (N := 80) ?hd (xs := ([] : List Int)) (inner := []) (ok := fun _ => True) (okp := fun _ => True) ?hr ?hp (fun _ hk => hk) trivial (zV _ _) (zT _) (by simp) ?_; (case hd => rfl); (case hg => rfl); (case hr => first | (go_simp; done) | (go_simp; rfl)); (case hp => exact (Reps.none _ _)); intro v533 w67 ho68 hb hg_ hnew_; clear hg_ hnew_; (first | rw [← Ny532.out] at ho68 | (simp only [Int.reduceToNat] at ho68; rw [← Ny532.out] at ho68)); replace HO_513002 := yA (Kd.S_elder' (mS HO_513002.out) (yY ho68) hb); replace HO_513003 := yA (yK (mR HO_513003.out) hb); have HO534 := yA (Kd.R_lower (Kd.R_new' (Kd.R_new' ho68 (yZ (mR HO_13.out))) (yZ (mR HO531.out))) (yX (by with_reducible repeat first | exact HB.out | apply yO | apply yN | apply yP | refine yQ ?_ GE505.out | refine yQ ?_ GE506.out | refine yQ ?_ GE512.out))); replace HO_13 := yA (zO (mR HO_13.out) (yY ho68) hb); replace HO531 := yA (zO (mR HO531.out) (yY ho68) hb); replace BK505 := yA (yU (mK BK505.out) hb); replace BK506 := yA (yU (mK BK506.out) hb); replace BK512 := yA (yU (mK BK512.out) hb); replace HB := yA (zD (by with_reducible repeat first | exact HB.out | apply yO | apply yN | apply yP | refine yQ ?_ GE505.out | refine yQ ?_ GE506.out | refine yQ ?_ GE512.out) hb); clear hb ho68))
             go_loopg [16, 83] k4 (fun kq v16 v83 w' => ∃ (x16_5 : List Int) (x83_5 : Int), v83 = .int .i64 x83_5 ∧ Aside0 (impl_RenameTracks.l3 kq l1 a2 (rd_L1 l0_2 x63_3) x13_4 t529 x16_5 l0_2 (l0_2.length : Int) x63_3 t525 x72_4 l1 (l1.length : Int) x83_5 a0_0 a0_1 l0_2 l0_3 a0_0 a2 x513002_3 t509 = some (r1, r2, r3, r4, r5)) ∧ Aside0 (kq ≤ k4) ∧ Aside0 (Kd.R (Kd.int .i64) 3 w' w.heap.size (fun k_ => some k_ ≠ (v530 : Value).ownBlock ∧ some k_ ≠ (v16 : Value).ownBlock) u13 x13_4) ∧ Aside0 (Kd.R (Kd.int .i64) 3 w' w.heap.size (fun k_ => some k_ ≠ (u13 : Value).ownBlock ∧ some k_ ≠ (v16 : Value).ownBlock) v530 t529) ∧ Aside0 (Kd.R (Kd.int .i64) 3 w' w.heap.size (fun k_ => some k_ ≠ (u13 : Value).ownBlock ∧ some k_ ≠ (v530 : Value).ownBlock) v16 x16_5) ∧ Aside0 (Kd.S (Kd.slice 3 (Kd.int .i64)) 38 w' w.heap.size (fun k_ => some k_ ≠ (u13 : Value).ownBlock ∧ some k_ ≠ (v530 : Value).ownBlock ∧ some k_ ≠ (v16 : Value).ownBlock) u513002 x513002_3) ∧ Aside0 (Kd.R Kd.bool 4 w' w.heap.size (fun _ => True) (.slice Ao44 t509.length co44) t509) ∧ Aside0 (w'.heap[gb505]? = some (.cells #[.int .i64 a0_0, .int .i64 a0_1, (.slice (some ad521) l0_2.length c0_2), (.slice A0_3 l0_3.length c0_3)] 25 (0, 0))) ∧ Aside0 (w'.heap[gb506]? = some (.cells #[.int .i64 x507000_2, .int .i64 x507001_2, (.slice none 0 0), (.slice none 0 0)] 25 (0, 0))) ∧ Aside0 (w'.heap[gb512]? = some (.cells #[.int .i64 a0_0, .int .i64 a2, u513002, (.slice Ao44 t509.length co44)] 25 (0, 0))) ∧ Aside0 (Below w.heap.size w w'))
             case atStart => exact ⟨(y532), (0), (by first | rfl | (simp; done) | (simp [*]; done)), H', ⟨zT _⟩, ⟨by (with_reducible repeat (first | apply yB | apply yC | apply yD)); exact zP HO_13.out (fun _ hk => ⟨hk.1.2, hk.2⟩)⟩, ⟨by (with_reducible repeat (first | apply yB | apply yC | apply yD)); exact zP HO531.out (fun _ hk => ⟨hk.1.2, hk.2⟩)⟩, ⟨by (with_reducible repeat (first | apply yB | apply yC | apply yD)); exact zP HO534.out (fun _ hk => ⟨hk.1.2, hk.2⟩)⟩, ⟨by (with_reducible repeat (first | apply yH | apply yI | apply yJ)); exact Kd.S_mono HO_513002.out (fun _ hk => ⟨hk.1.1, ⟨hk.1.2, hk.2⟩⟩)⟩, ⟨mR HO_513003.out⟩, ⟨mK BK505.out⟩, ⟨mK BK506.out⟩, ⟨mK BK512.out⟩, ⟨by repeat (first | (with_reducible first | exact HB.out | apply yO | apply yN | apply yP | refine yQ ?_ GE505.out | refine yQ ?_ GE506.out | refine yQ ?_ GE512.out) | exact HB.out)⟩⟩
             case round =>
              clear H'
              (try clear c1);(try clear c2);(try clear p2);(try clear c3);(try clear c4);(try clear c5);(try clear p5);(try clear q5);(try clear hx5);(try clear c6);(try clear p6);(try clear c8);(try clear c9);(try clear c9b0);(try clear c9b1);(try clear c10);(try clear c10b0);(try clear c11);(try clear c15);(try clear c19);(try clear c23);(try clear c26);(try clear c27);(try clear c29);(try clear c29b0);(try clear c30);(try clear c30b0);(try clear c31);(try clear c31b0);(try clear c32);(try clear c32b0);(try clear c33);(try clear c35);(try clear c35b0);(try clear c36);(try clear c49);(try clear c50);(try clear p50);(try clear q50);(try clear hx50);(try clear c52);(try clear c52b0);(try clear p52);(try clear q52);(try clear hx52);(try clear c53);(try clear c53b0);(try clear c54);(try clear c54b0);(try clear c58);(try clear c59);(try clear c61);(try clear c61b0);(try clear c63);(try clear c64);(try clear hcz12_0);(try clear hcz12_1);(try clear hcz12_2);(try clear hcz12_3);(try clear hcz14_0);(try clear hcz14_1);(try clear hcz14_2);(try clear hcz14_3);(try clear hcz16_0);(try clear hcz16_1);(try clear hcz16_2);(try clear hcz16_3);(try clear hcz18_0);(try clear hcz18_1);(try clear hcz18_2);(try clear hcz18_3);(try clear hcz20_0);(try clear hcz20_1);(try clear hcz20_2);(try clear hcz20_3);(try clear hcz22_0);(try clear hcz22_1);(try clear hcz22_2);(try clear hcz22_3);(try clear hcz24_0);(try clear hcz24_1);(try clear hcz24_2);(try clear hcz24_3);(try clear hcz28_0);(try clear hcz28_1);(try clear hcz28_2);(try clear hcz28_3);(try clear hcz34_0);(try clear hcz34_1);(try clear hcz34_2);(try clear hcz34_3);(try clear hcz37_0);(try clear hcz37_1);(try clear hcz37_2);(try clear hcz37_3);(try clear hcz51_0);(try clear hcz51_1);(try clear hcz51_2);(try clear hcz51_3);(try clear hcz60_0);(try clear hcz60_1);(try clear hcz60_2);(try clear hcz60_3);(try clear hcz65_0);(try clear hcz65_1);(try clear hcz65_2);(try clear hcz65_3);(try clear hfz12_0);(try clear hfz12_1);(try clear hfz12_2);(try clear hfz12_3);(try clear hfz14_0);(try clear hfz14_1);(try clear hfz14_2);(try clear hfz14_3);(try clear hfz16_0);(try clear hfz16_1);(try clear hfz16_2);(try clear hfz16_3);(try clear hfz18_0);(try clear hfz18_1);(try clear hfz18_2);(try clear hfz18_3);(try clear hfz20_0);(try clear hfz20_1);(try clear hfz20_2);(try clear hfz20_3);(try clear hfz22_0);(try clear hfz22_1);(try clear hfz22_2);(try clear hfz22_3);(try clear hfz24_0);(try clear hfz24_1);(try clear hfz24_2);(try clear hfz24_3);(try clear hfz28_0);(try clear hfz28_1);(try clear hfz28_2);(try clear hfz28_3);(try clear hfz34_0);(try clear hfz34_1);(try clear hfz34_2);(try clear hfz34_3);(try clear hfz37_0);(try clear hfz37_1);(try clear hfz37_2);(try clear hfz37_3);(try clear hfz51_0);(try clear hfz51_1);(try clear hfz51_2);(try clear hfz51_3);(try clear hfz60_0);(try clear hfz60_1);(try clear hfz60_2);(try clear hfz60_3);(try clear hfz65_0);(try clear hfz65_1);(try clear hfz65_2);(try clear hfz65_3);(try clear hx508_0);(try clear hx521_0);(try clear p2);(try clear p5);(try clear p50);(try clear p508);(try clear p52);(try clear p521);(try clear p6);(try clear q5);(try clear q50);(try clear q508);(try clear q52);(try clear q521)
              obtain ⟨x16_5, x83_5, rfl, HA, HK5, HO_13, HO_15, HO_16, HO_513002, HO_513003, BK505, BK506, BK512, HB⟩ := hrel
              cases gk with
              | zero => exact absurd HA.out (by simp [impl_RenameTracks.l3])
              | succ k5 =>
               have H := HA.out
               clear HA
               simp only [impl_RenameTracks.l3] at H
               by_cases c69 : x83_5 < (l1.length : Int)
               ·rw [if_pos c69] at H
                have c69b0 : decide (x83_5 < (l1.length : Int)) = true := zH c69
                clear c69
                obtain ⟨c70, H⟩ := iP H
                have c70b0 : decide (0 ≤ x83_5) = true := zH c70
                clear c70
                obtain ⟨c71, H⟩ := iP H
                have c71b0 : decide (x83_5 < (l1.length : Int)) = true := zH c71
                clear c71
                obtain ⟨c72, H⟩ := iP H
                have c72b0 : decide (0 ≤ (rd l1 x83_5)) = true := zH c72
                clear c72
                obtain ⟨c73, H⟩ := iP H
                have c73b0 : decide ((rd l1 x83_5) < (t529.length : Int)) = true := zH c73
                clear c73
                obtain ⟨c74, H⟩ := iP H
                have LMc74 := yA c74
                clear c74
                (first | ((with_reducible replace H := bS H); obtain ⟨y537, Ny537, H⟩ := H) | (obtain ⟨y537, Ny537⟩ : ∃ y_ : List Int, y_ = (x16_5 ++ [rd t529 (rd l1 x83_5)]) := ⟨_, rfl⟩; rw [← Ny537] at H; replace Ny537 := yA Ny537))
                have H' := yA H
                clear H
                have p535 : 0 ≤ (x83_5 : Int) := zG (by assumption)
                have q535 : x83_5 < (l1.length : Int) := zG (by assumption)
                obtain ⟨ad535, e535, hx535_0⟩ := Kd.at_int HR1.out x83_5 p535 q535
                cases e535
                try replace hx535_0 := (HB.out.cell (zE w _ hx535_0)).trans hx535_0
                replace p535 := eq_true p535
                replace q535 := eq_true q535
                obtain ⟨Ao75, co75, eo75⟩ := Kd.R_slice HO_15.out
                subst eo75
                have p536 : 0 ≤ ((rd l1 x83_5) : Int) := zG (by assumption)
                have q536 : (rd l1 x83_5) < (t529.length : Int) := zG (by assumption)
                obtain ⟨ad536, e536, hx536_0⟩ := Kd.at_int (zN HO_15.out).2.2 (rd l1 x83_5) p536 q536
                cases e536
                replace p536 := eq_true p536
                replace q536 := eq_true q536
                go_wp2_with (first | ((with_reducible refine gate_builtin (b := .append) (xs := #[.tmp 87, .tmp 92]) rfl ?_); at_builtin; refine Kd.R_append (Kd.int .i64) (w0 := w) w.heap.size rfl (.tmp 87) (.tmp 92) 38 3 (.int .i64 0) 8 rfl Try.underlying38 info3 rfl (by decide) (by omega) u16 x16_5 (rd t529 (rd l1 x83_5)) [.int .i64 (rd t529 (rd l1 x83_5))] (fun k_ => some k_ ≠ (u13 : Value).ownBlock ∧ some k_ ≠ (.slice (some ad536) t529.length co75 : Value).ownBlock) (fun _ => False) rfl rfl ?aP (fun _ hk => hk.elim) ?aF ?aO ?aB ?aS ?aL ?_; (case aP => exact rfl); (case aB => exact (by with_reducible repeat first | exact HB.out | apply yO | apply yN | apply yP | refine yQ ?_ GE505.out | refine yQ ?_ GE506.out | refine yQ ?_ GE512.out)); (case aF => exact (fun k_ hk => ⟨Kd.fresh' (yZ (mR HO_13.out)) k_ hk, Kd.fresh' (yZ (mR HO_15.out)) k_ hk⟩)); (case aO => exact (mR HO_16.out)); (case aS => exact (yX (by with_reducible repeat first | exact HB.out | apply yO | apply yN | apply yP | refine yQ ?_ GE505.out | refine yQ ?_ GE506.out | refine yQ ?_ GE512.out))); (case aL => have := LMc74.out; omega); intro v538 w76 ho hb hg hat; rw [← Ny537.out] at ho; replace HO_13 := yA (Kd.R_after (ok := (fun k_ => some k_ ≠ (.slice (some ad536) t529.length co75 : Value).ownBlock)) (mR HO_13.out) hg hat); replace HO_15 := yA (Kd.R_after (ok := (fun k_ => some k_ ≠ (u13 : Value).ownBlock)) (mR HO_15.out) hg hat); replace HO_513002 := yA (Kd.S_after (ok := (fun k_ => some k_ ≠ (u13 : Value).ownBlock ∧ some k_ ≠ (.slice (some ad536) t529.length co75 : Value).ownBlock)) (mS (Kd.S_mono HO_513002.out (fun _ hk => ⟨⟨hk.1, hk.2.1⟩, hk.2.2⟩))) hg hat); replace HO_513003 := yA (Kd.R_over' (mR HO_513003.out) (Kd.R_typed (mR HO_16.out)) (by decide) hg); replace BK505 := yA (blk_grown (g := gb505) (o := .cells #[.int .i64 a0_0, .int .i64 a0_1, .slice (some ad521) l0_2.length c0_2, .slice A0_3 l0_3.length c0_3] 25 (0, 0)) (mK BK505.out) hg (zW HO_16.out BK505.out (by decide))); replace BK506 := yA (blk_grown (g := gb506) (o := .cells #[.int .i64 x507000_2, .int .i64 x507001_2, .slice none 0 0, .slice none 0 0] 25 (0, 0)) (mK BK506.out) hg (zW HO_16.out BK506.out (by decide))); replace BK512 := yA (blk_grown (g := gb512) (o := .cells #[.int .i64 a0_0, .int .i64 a2, u513002, .slice Ao44 t509.length co44] 25 (0, 0)) (mK BK512.out) hg (zW HO_16.out BK512.out (by decide))); replace HB := yA (hb); have HO539 := yA (ho); clear HO_16; clear ho hb hg hat))
                go_roundg k5
                case measure => have := HJ3.out; have := HK2.out; have := HK3.out; have := HK4.out; have := HK5.out; omega
                case rel => exact ⟨(y537), (wrap64 (x83_5 + 1)), (by first | rfl | (simp; done) | (simp [*]; done)), H', ⟨by have := HJ3.out; have := HK2.out; have := HK3.out; have := HK4.out; have := HK5.out; omega⟩, ⟨mR HO_13.out⟩, ⟨mR HO_15.out⟩, ⟨mR HO539.out⟩, ⟨by (with_reducible repeat (first | apply yH | apply yI | apply yJ)); exact Kd.S_mono HO_513002.out (fun _ hk => ⟨hk.1.1, ⟨hk.1.2, hk.2⟩⟩)⟩, ⟨mR HO_513003.out⟩, ⟨mK BK505.out⟩, ⟨mK BK506.out⟩, ⟨mK BK512.out⟩, ⟨by repeat (first | (with_reducible first | exact HB.out | apply yO | apply yN | apply yP | refine yQ ?_ GE505.out | refine yQ ?_ GE506.out | refine yQ ?_ GE512.out) | exact HB.out)⟩⟩
               ·rw [if_neg c69] at H
                have c69b0 : decide (x83_5 < (l1.length : Int)) = false := decide_eq_false c69
                clear c69
                obtain ⟨t540, A77, H⟩ := bE H
                obtain ⟨c78, H⟩ := iP H
                have c78b0 : decide (0 ≤ t540) = true := zH c78
                clear c78
                obtain ⟨c79, H⟩ := iP H
                have c79b0 : decide (t540 < ((rd_L1 l0_2 x63_3).length : Int)) = true := zH c79
                clear c79
                obtain ⟨c80, H⟩ := iP H
                have LMc80 := yA c80
                clear c80
                (first | ((with_reducible replace H := bS H); obtain ⟨y542, Ny542, H⟩ := H) | (obtain ⟨y542, Ny542⟩ : ∃ y_ : List Int, y_ = (x13_4 ++ [rd (rd_L1 l0_2 x63_3) t540]) := ⟨_, rfl⟩; rw [← Ny542] at H; replace Ny542 := yA Ny542))
                have H' := yA H
                clear H
                have hnb81 := NB505_506.out
                have hnc81 := NB506_505.out
                have hnb82 := NB505_512.out
                have hnc82 := NB512_505.out
                obtain ⟨hcz83_0, hcz83_1, hcz83_2, hcz83_3⟩ := cz4 BK505.out
                obtain ⟨hfz83_0, hfz83_1, hfz83_2, hfz83_3⟩ := fz4 BK505.out
                obtain ⟨Ao84, co84, eo84⟩ := Kd.R_slice HO_16.out
                subst eo84
                go_wp2_with (first | ((with_reducible refine zS (f := 92) rfl ?_); refine goesL_ (some 100) rfl rfl Try.func92 (by kernel_rfl) rfl #[.int .i64 a0_0, .slice Ao84 x16_5.length co84] rfl (by (try simp only [zI, zJ, zK]); first | done | rfl | (simp only [zL, zM]; rfl)) ?_; (with_reducible refine (impl_letterOf.calls k5 a0_0 _ _ x16_5 t540 _ ?side1 ?side2 A77.out).mono ?_); (case side1 => exact mC ((zN HO_16.out).2.2)); (case side2 => exact (zN HO_16.out).2.1); rintro e w' ⟨rfl, ⟨nd, rfl⟩⟩; refine ⟨_, rfl, ?_⟩; have p541 : 0 ≤ (t540 : Int) := zG (by assumption); have q541 : t540 < ((rd_L1 l0_2 x63_3).length : Int) := zG (by assumption); obtain ⟨ad541, e541, hx541_0⟩ := Kd.at_int HR521_0.out t540 p541 q541; cases e541; replace hx541_0 := (HB.out.cell (zE w _ hx541_0)).trans hx541_0; replace p541 := eq_true p541; replace q541 := eq_true q541) | ((with_reducible refine gate_builtin (b := .append) (xs := #[.tmp 95, .tmp 103]) rfl ?_); at_builtin; refine Kd.R_append (Kd.int .i64) (w0 := w) w.heap.size rfl (.tmp 95) (.tmp 103) 38 3 (.int .i64 0) 8 rfl Try.underlying38 info3 rfl (by decide) (by omega) u13 x13_4 (rd (rd_L1 l0_2 x63_3) t540) [.int .i64 (rd (rd_L1 l0_2 x63_3) t540)] (fun k_ => some k_ ≠ (v530 : Value).ownBlock ∧ some k_ ≠ (.slice Ao84 x16_5.length co84 : Value).ownBlock) (fun _ => False) rfl rfl ?aP (fun _ hk => hk.elim) ?aF ?aO ?aB ?aS ?aL ?_; (case aP => exact rfl); (case aB => exact (by with_reducible repeat first | exact HB.out | apply yO | apply yN | apply yP | refine yQ ?_ GE505.out | refine yQ ?_ GE506.out | refine yQ ?_ GE512.out)); (case aF => exact (fun k_ hk => ⟨Kd.fresh' (yZ (mR HO_15.out)) k_ hk, Kd.fresh' (yZ (mR HO_16.out)) k_ hk⟩)); (case aO => exact (mR HO_13.out)); (case aS => exact (yX (by with_reducible repeat first | exact HB.out | apply yO | apply yN | apply yP | refine yQ ?_ GE505.out | refine yQ ?_ GE506.out | refine yQ ?_ GE512.out))); (case aL => have := LMc80.out; omega); intro v543 w85 ho hb hg hat; rw [← Ny542.out] at ho; replace HO_15 := yA (Kd.R_after (ok := (fun k_ => some k_ ≠ (.slice Ao84 x16_5.length co84 : Value).ownBlock)) (mR (zP HO_15.out (fun _ hk => ⟨hk.2, hk.1⟩))) hg hat); replace HO_16 := yA (Kd.R_after (ok := (fun k_ => some k_ ≠ (v530 : Value).ownBlock)) (mR (zP HO_16.out (fun _ hk => ⟨hk.2, hk.1⟩))) hg hat); replace HO_513002 := yA (Kd.S_after (ok := (fun k_ => some k_ ≠ (v530 : Value).ownBlock ∧ some k_ ≠ (.slice Ao84 x16_5.length co84 : Value).ownBlock)) (mS (Kd.S_mono HO_513002.out (fun _ hk => ⟨⟨hk.2.1, hk.2.2⟩, hk.1⟩))) hg hat); replace HO_513003 := yA (Kd.R_over' (mR HO_513003.out) (Kd.R_typed (mR HO_13.out)) (by decide) hg); replace BK505 := yA (blk_grown (g := gb505) (o := .cells #[.int .i64 a0_0, .int .i64 a0_1, .slice (some ad521) l0_2.length c0_2, .slice A0_3 l0_3.length c0_3] 25 (0, 0)) (mK BK505.out) hg (zW HO_13.out BK505.out (by decide))); replace BK506 := yA (blk_grown (g := gb506) (o := .cells #[.int .i64 x507000_2, .int .i64 x507001_2, .slice none 0 0, .slice none 0 0] 25 (0, 0)) (mK BK506.out) hg (zW HO_13.out BK506.out (by decide))); replace BK512 := yA (blk_grown (g := gb512) (o := .cells #[.int .i64 a0_0, .int .i64 a2, u513002, .slice Ao44 t509.length co44] 25 (0, 0)) (mK BK512.out) hg (zW HO_13.out BK512.out (by decide))); replace HB := yA (hb); have HO544 := yA (ho); clear HO_13; clear ho hb hg hat))
                go_roundg k5
                case measure => have := HJ3.out; have := HK2.out; have := HK3.out; have := HK4.out; have := HK5.out; omega
                case rel => exact ⟨(y542), (wrap64 (x72_4 + 1)), (by first | rfl | (simp; done) | (simp [*]; done)), H', ⟨by have := HJ3.out; have := HK2.out; have := HK3.out; have := HK4.out; have := HK5.out; omega⟩, ⟨by (with_reducible repeat (first | apply yB | apply yC | apply yD)); exact zP HO544.out (fun _ hk => trivial)⟩, ⟨by (with_reducible repeat (first | apply yH | apply yI | apply yJ)); exact Kd.S_mono HO_513002.out (fun _ hk => hk.2)⟩, ⟨mR HO_513003.out⟩, ⟨mK BK505.out⟩, ⟨mK BK506.out⟩, ⟨mK BK512.out⟩, ⟨by repeat (first | (with_reducible first | exact HB.out | apply yO | apply yN | apply yP | refine yQ ?_ GE505.out | refine yQ ?_ GE506.out | refine yQ ?_ GE512.out) | exact HB.out)⟩⟩
            ·rw [if_neg c61] at H
             have c61b0 : decide (x72_4 < t525) = false := decide_eq_false c61
             clear c61
             obtain ⟨c86, H⟩ := iP H
             have LMc86 := yA c86
             clear c86
             (first | ((with_reducible replace H := bS H); obtain ⟨y526, Ny526, H⟩ := H) | (obtain ⟨y526, Ny526⟩ : ∃ y_ : List (List Int), y_ = (x513002_3 ++ [x13_4]) := ⟨_, rfl⟩; rw [← Ny526] at H; replace Ny526 := yA Ny526))
             have H' := yA H
             clear H
             have hnb87 := NB512_505.out
             have hnc87 := NB505_512.out
             have hnb88 := NB512_506.out
             have hnc88 := NB506_512.out
             obtain ⟨hcz89_0, hcz89_1, hcz89_2, hcz89_3⟩ := cz4 BK512.out
             obtain ⟨hfz89_0, hfz89_1, hfz89_2, hfz89_3⟩ := fz4 BK512.out
             obtain ⟨Ao91, co91, eo91⟩ := Kd.R_slice HO_13.out
             subst eo91
             go_wp2_with (first | ((with_reducible refine gate_builtin (b := .append) (xs := #[.tmp 107, .tmp 109]) rfl ?_); at_builtin; refine Kd.S_append (Kd.slice 3 (Kd.int .i64)) (w0 := w) w.heap.size rfl (.tmp 107) (.tmp 109) 22 38 (.slice none 0 0) 24 rfl Try.underlying22 info38 rfl (by decide) (by omega) u513002 x513002_3 x13_4 [.slice Ao91 x13_4.length co91] (fun _ => True) (fun k_ => some k_ = (.slice Ao91 x13_4.length co91 : Value).ownBlock) rfl rfl ?aP (fun k_ hk_ => ((zP (ok' := fun k_ => ((fun _ => True)) k_ ∧ some k_ ≠ (u513002 : Value).ownBlock) (Kd.R_apart' (HO_13.out) (Kd.S_typed HO_513002.out) (by decide)) (fun k_ hk => ⟨trivial, hk.2⟩))).1 k_ hk_.symm) ?aF ?aO ?aB ?aS ?aL ?_; (case aP => exact Kd.M_row (zP (Kd.R_tight rfl (zP (ok' := fun k_ => ((fun _ => True)) k_ ∧ some k_ ≠ (u513002 : Value).ownBlock) (Kd.R_apart' (HO_13.out) (Kd.S_typed HO_513002.out) (by decide)) (fun k_ hk => ⟨trivial, hk.2⟩))) (fun _ h_ => h_))); (case aB => exact (by with_reducible repeat first | exact HB.out | apply yO | apply yN | apply yP | refine yQ ?_ GE505.out | refine yQ ?_ GE506.out | refine yQ ?_ GE512.out)); (case aF => exact (fun _ _ => trivial)); (case aO => exact (mS (Kd.S_mono HO_513002.out (fun k_ hk => ⟨trivial, fun e_ => hk e_⟩)))); (case aS => exact (yX (by with_reducible repeat first | exact HB.out | apply yO | apply yN | apply yP | refine yQ ?_ GE505.out | refine yQ ?_ GE506.out | refine yQ ?_ GE512.out))); (case aL => have := LMc86.out; omega); intro v527 w90 ho hb hg hat; rw [← Ny526.out] at ho; replace HO_513003 := yA (Kd.R_over' (mR HO_513003.out) (Kd.S_typed (mS HO_513002.out)) (by decide) hg); replace BK505 := yA (blk_grown (g := gb505) (o := .cells #[.int .i64 a0_0, .int .i64 a0_1, .slice (some ad521) l0_2.length c0_2, .slice A0_3 l0_3.length c0_3] 25 (0, 0)) (mK BK505.out) hg (Kd.S_ne HO_513002.out BK505.out (by decide))); replace BK506 := yA (blk_grown (g := gb506) (o := .cells #[.int .i64 x507000_2, .int .i64 x507001_2, .slice none 0 0, .slice none 0 0] 25 (0, 0)) (mK BK506.out) hg (Kd.S_ne HO_513002.out BK506.out (by decide))); replace BK512 := yA (blk_grown (g := gb512) (o := .cells #[.int .i64 a0_0, .int .i64 a2, u513002, .slice Ao44 t509.length co44] 25 (0, 0)) (mK BK512.out) hg (Kd.S_ne HO_513002.out BK512.out (by decide))); replace HB := yA (hb); have HO528 := yA (ho); clear HO_513002 HO_13; clear ho hb hg hat; obtain ⟨Ao92, co92, eo92⟩ := Kd.S_slice HO528.out; subst eo92; have hcz93_0 : w90.cell? ⟨gb512, 0, none⟩ = some (.int .i64 a0_0) := (yV BK512.out 0).trans rfl; have hcz93_1 : w90.cell? ⟨gb512, 1, none⟩ = some (.int .i64 a2) := (yV BK512.out 1).trans rfl; have hcz93_2 : w90.cell? ⟨gb512, 2, none⟩ = some (u513002) := (yV BK512.out 2).trans rfl; have hcz93_3 : w90.cell? ⟨gb512, 3, none⟩ = some (.slice Ao44 t509.length co44) := (yV BK512.out 3).trans rfl; have hfz93_0 := yW BK512.out 0; have hfz93_1 := yW BK512.out 1; have hfz93_2 := yW BK512.out 2; have hfz93_3 := yW BK512.out 3))
             go_roundg k4
             case measure => have := HJ3.out; have := HK2.out; have := HK3.out; have := HK4.out; omega
             case rel => exact ⟨(wrap64 (x63_3 + 1)), (y526), (.slice Ao92 y526.length co92), (by first | rfl | (simp; done) | (simp [*]; done)), H', ⟨by have := HJ3.out; have := HK2.out; have := HK3.out; have := HK4.out; omega⟩, ⟨by (with_reducible repeat (first | apply yH | apply yI | apply yJ)); exact Kd.S_mono (Kd.S_far (p := ⟨gb512, 2, none⟩) (Kd.S_types HO528.out BK512.out (by decide)) (fun _ hk => hk.2) (.slice Ao92 y526.length co92)) (fun _ hk => trivial)⟩, ⟨by (with_reducible repeat (first | apply yB | apply yC | apply yD)); exact zP (zQ (p := ⟨gb512, 2, none⟩) (zR HO_513003.out BK512.out (by decide)) (fun _ hk => hk.2) (.slice Ao92 y526.length co92)) (fun _ hk => trivial)⟩, ⟨by (with_reducible repeat (first | refine yS ?_ _ | refine yT ?_ | refine yR ?_ _)); refine blk_far ?_ NB505_512.out _; (with_reducible repeat (first | refine yS ?_ _ | refine yT ?_ | refine yR ?_ _)); exact BK505.out⟩, ⟨by (with_reducible repeat (first | refine yS ?_ _ | refine yT ?_ | refine yR ?_ _)); refine blk_far ?_ NB506_512.out _; (with_reducible repeat (first | refine yS ?_ _ | refine yT ?_ | refine yR ?_ _)); exact BK506.out⟩, ⟨by (with_reducible repeat (first | refine yS ?_ _ | refine yT ?_ | refine yR ?_ _)); refine blk_put (cs := #[.int .i64 a0_0, .int .i64 a2, u513002, .slice Ao44 t509.length co44]) ?_ 2 _ rfl; (with_reducible repeat (first | refine yS ?_ _ | refine yT ?_ | refine yR ?_ _)); exact BK512.out⟩, ⟨by repeat (first | (with_reducible first | exact HB.out | apply yO | apply yN | apply yP | refine yQ ?_ GE505.out | refine yQ ?_ GE506.out | refine yQ ?_ GE512.out) | exact HB.out)⟩⟩
         ·rw [if_neg c52] at H
          have c52b0 : decide (x63_3 < (l0_2.length : Int)) = false := decide_eq_false c52
          clear c52
          replace H := Option.bind_eq_some_iff.mp H
          obtain ⟨⟨t513, t514, t515, t518⟩, A940, H⟩ := H
          replace H : (some (t513, t514, t515, t518, true)) = some (r1, r2, r3, r4, r5) := H
          have A94 := yA A940
          clear A940
          simp only [Option.some.injEq, Prod.mk.injEq] at H
          obtain ⟨rfl, rfl, rfl, rfl, rfl⟩ := H
          have hnb95 := NB512_505.out
          have hnc95 := NB505_512.out
          have hnb96 := NB512_506.out
          have hnc96 := NB506_512.out
          obtain ⟨hcz97_0, hcz97_1, hcz97_2, hcz97_3⟩ := cz4 BK512.out
          obtain ⟨hfz97_0, hfz97_1, hfz97_2, hfz97_3⟩ := fz4 BK512.out
          obtain ⟨Ao98, co98, eo98⟩ := Kd.S_slice HO_513002.out
          subst eo98
          go_wp2_with (first | ((with_reducible refine zS (f := 84) rfl ?_); refine goesL_ (some 114) rfl rfl Try.func84 (by kernel_rfl) rfl #[.agg #[.int .i64 a0_0, .int .i64 a2, .slice Ao98 x513002_3.length co98, .slice Ao44 t509.length co44]] rfl (by (try simp only [zI, zJ, zK]); first | done | rfl | (simp only [zL, zM]; rfl)) ?_; (with_reducible refine (impl_Relation_reduced.calls k3 a0_0 a2 _ _ x513002_3 _ _ t509 t513 t514 t515 t518 _ ?side1 ?side2 ?side3 ?side4 A94.out).mono ?_); (case side1 => exact mC ((Kd.S_reads' HO_513002.out).2.2)); (case side2 => exact (Kd.S_reads' HO_513002.out).2.1); (case side3 => exact mC ((zN HO_513003.out).2.2)); (case side4 => exact (zN HO_513003.out).2.1); rintro e w99 ⟨v516, v519, rfl, ho0, ho1, hb⟩; refine ⟨_, rfl, ?_⟩; have HO517 := yA (Kd.S_lower (Kd.S_new' ho0 (Kd.S_lt (mS HO_513002.out))) (yX (by with_reducible repeat first | exact HB.out | apply yO | apply yN | apply yP | refine yQ ?_ GE505.out | refine yQ ?_ GE506.out | refine yQ ?_ GE512.out))); replace HO_513002 := yA (Kd.S_elder' (mS HO_513002.out) (Kd.S_base ho0) hb); have HO520 := yA (Kd.R_lower (Kd.R_new' ho1 (yZ (mR HO_513003.out))) (yX (by with_reducible repeat first | exact HB.out | apply yO | apply yN | apply yP | refine yQ ?_ GE505.out | refine yQ ?_ GE506.out | refine yQ ?_ GE512.out))); replace HO_513003 := yA (zO (mR HO_513003.out) (yY ho1) hb); replace BK505 := yA (yU (mK BK505.out) hb); replace BK506 := yA (yU (mK BK506.out) hb); replace BK512 := yA (yU (mK BK512.out) hb); replace HB := yA (zD (by with_reducible repeat first | exact HB.out | apply yO | apply yN | apply yP | refine yQ ?_ GE505.out | refine yQ ?_ GE506.out | refine yQ ?_ GE512.out) hb); (try clear hb); (try clear hb2); (try clear hk); (try clear hi); (try clear ho0); (try clear ho1); have hnb100 := NB506_505.out; have hnc100 := NB505_506.out; have hcz101_0 : w99.cell? ⟨gb506, 0, none⟩ = some (.int .i64 x507000_2) := (yV BK506.out 0).trans rfl; have hcz101_1 : w99.cell? ⟨gb506, 1, none⟩ = some (.int .i64 x507001_2) := (yV BK506.out 1).trans rfl; have hcz101_2 : w99.cell? ⟨gb506, 2, none⟩ = some (.slice none 0 0) := (yV BK506.out 2).trans rfl; have hcz101_3 : w99.cell? ⟨gb506, 3, none⟩ = some (.slice none 0 0) := (yV BK506.out 3).trans rfl; have hfz101_0 := yW BK506.out 0; have hfz101_1 := yW BK506.out 1; have hfz101_2 := yW BK506.out 2; have hfz101_3 := yW BK506.out 3; obtain ⟨Ao102, co102, eo102⟩ := Kd.S_slice HO517.out; subst eo102; obtain ⟨Ao103, co103, eo103⟩ := Kd.R_slice HO520.out; subst eo103))
          refine bodyPost_ret (results_ct rfl _ _ gb506 25 #[.int .i64 t513, .int .i64 t514, .slice Ao102 t515.length co102, .slice Ao103 t518.length co103] (0, 0) _ rfl (by (with_reducible repeat (first | refine yS ?_ _ | refine yT ?_ | refine yR ?_ _)); refine blk_put (cs := #[.int .i64 t513, .int .i64 t514, .slice Ao102 t515.length co102, .slice none 0 0]) ?_ 3 _ rfl; (with_reducible repeat (first | refine yS ?_ _ | refine yT ?_ | refine yR ?_ _)); refine blk_put (cs := #[.int .i64 t513, .int .i64 t514, .slice none 0 0, .slice none 0 0]) ?_ 2 _ rfl; (with_reducible repeat (first | refine yS ?_ _ | refine yT ?_ | refine yR ?_ _)); refine blk_put (cs := #[.int .i64 t513, .int .i64 x507001_2, .slice none 0 0, .slice none 0 0]) ?_ 1 _ rfl; (with_reducible repeat (first | refine yS ?_ _ | refine yT ?_ | refine yR ?_ _)); refine blk_put (cs := #[.int .i64 x507000_2, .int .i64 x507001_2, .slice none 0 0, .slice none 0 0]) ?_ 0 _ rfl; (with_reducible repeat (first | refine yS ?_ _ | refine yT ?_ | refine yR ?_ _)); exact BK506.out) Try.underlying25 rfl (by kernel_rfl)) rfl ?_
          exact ⟨_, _, by first | rfl | (simp [errW_none, errW_some] <;> rfl) | (simp [*, errW_none, errW_some] <;> rfl), by (with_reducible repeat (first | apply yH | apply yI | apply yJ)); exact Kd.S_mono (Kd.S_far (p := ⟨gb506, 3, none⟩) (Kd.S_far (p := ⟨gb506, 2, none⟩) (Kd.S_far (p := ⟨gb506, 1, none⟩) (Kd.S_far (p := ⟨gb506, 0, none⟩) (Kd.S_types HO517.out BK506.out (by decide)) (fun _ hk => hk.2) (.int .i64 t513)) (fun _ hk => hk.2) (.int .i64 t514)) (fun _ hk => hk.2) (.slice Ao102 t515.length co102)) (fun _ hk => hk.2) (.slice Ao103 t518.length co103)) (fun _ hk => trivial), by (with_reducible repeat (first | apply yB | apply yC | apply yD)); exact zP (zQ (p := ⟨gb506, 3, none⟩) (zQ (p := ⟨gb506, 2, none⟩) (zQ (p := ⟨gb506, 1, none⟩) (zQ (p := ⟨gb506, 0, none⟩) (zR HO520.out BK506.out (by decide)) (fun _ hk => hk.2) (.int .i64 t513)) (fun _ hk => hk.2) (.int .i64 t514)) (fun _ hk => hk.2) (.slice Ao102 t515.length co102)) (fun _ hk => hk.2) (.slice Ao103 t518.length co103)) (fun _ hk => trivial), by repeat (first | (with_reducible first | exact HB.out | apply yO | apply yN | apply yP | refine yQ ?_ GE505.out | refine yQ ?_ GE506.out | refine yQ ?_ GE512.out) | exact HB.out)⟩

end Go.Proofs.Ytgopcliohchkmaa.Q
