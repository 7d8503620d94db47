-- written by a program of this session
-- squeezed
-- compact
-- shrunk
import Derived.Test.YtgopcliohchkmaaQ0
import Derived.Test.YtgopcliohchkmaaQ1
namespace Go.Proofs.Ytgopcliohchkmaa.Q
open Go.RowKit Go.Proofs.YtgopcliohchkmaaW.PrintWords Go.Proofs.YtgopcliohchkmaaW.PrintLast Go.Proofs.YtgopcliohchkmaaW.PrintMore
set_option linter.unusedVariables false
set_option linter.unusedSimpArgs false

/-! ### spec_SumRelation: function 15 -/
mutual
def spec_SumRelation.l0 : Nat → Int → Int → Int → Int → List (List Int) → List Bool → Option (Int × Int × (List (List Int)) × List Bool × Bool)
 | 0, _, _, _, _, _, _ => none
 | k + 1, x0, x5, x107000, x107001, x107002, x107003 => if x5 < 3 then (spec_SumRelation.l1 k x0 x5 (([] : List Int)) 0 x107000 x107001 x107002 x107003) else (some (x107000, x107001, x107002, x107003, true))
def spec_SumRelation.l1 : Nat → Int → Int → List Int → Int → Int → Int → List (List Int) → List Bool → Option (Int × Int × (List (List Int)) × List Bool × Bool)
 | 0, _, _, _, _, _, _, _, _ => none
 | k + 1, x0, x5, x6, x7, x107000, x107001, x107002, x107003 => if x7 < (wrap64 ((wrap64 (x0 * x0)) * x0)) then (if (wrap64 (x0 * x0)) = 0 then (none) else (if x0 = 0 then (none) else (spec_SumRelation.l2 k x0 x5 x6 x7 (wrap64 (Int.tdiv x7 (wrap64 (x0 * x0)))) (Int.tmod (wrap64 (Int.tdiv x7 x0)) x0) (Int.tmod x7 x0) 2 0 x107000 x107001 x107002 x107003))) else (if x107002.length < 5864062014805 then (spec_SumRelation.l0 k x0 (wrap64 (x5 + 1)) x107000 x107001 (x107002 ++ [x6]) x107003) else (none))
def spec_SumRelation.l2 : Nat → Int → Int → List Int → Int → Int → Int → Int → Int → Int → Int → Int → List (List Int) → List Bool → Option (Int × Int × (List (List Int)) × List Bool × Bool)
 | 0, _, _, _, _, _, _, _, _, _, _, _, _, _ => none
 | k + 1, x0, x5, x6, x7, x8, x9, x10, x11, x12, x107000, x107001, x107002, x107003 => if x12 < 2 then (spec_SumRelation.j3 k x0 x5 x6 x7 x8 x9 x10 x11 x12 (decide (x5 < 2)) x107000 x107001 x107002 x107003) else (spec_SumRelation.j3 k x0 x5 x6 x7 x8 x9 x10 x11 x12 false x107000 x107001 x107002 x107003)
def spec_SumRelation.j3 : Nat → Int → Int → List Int → Int → Int → Int → Int → Int → Int → Bool → Int → Int → List (List Int) → List Bool → Option (Int × Int × (List (List Int)) × List Bool × Bool)
 | 0, _, _, _, _, _, _, _, _, _, _, _, _, _, _ => none
 | k + 1, x0, x5, x6, x7, x8, x9, x10, x11, x12, x52, x107000, x107001, x107002, x107003 => if x52 = true then (if (wrap64 ((wrap64 (x8 + x9)) + x12)) = (wrap64 (x10 + (wrap64 (x5 * x0)))) then (spec_SumRelation.l2 k x0 x5 x6 x7 x8 x9 x10 x12 (wrap64 (x12 + 1)) x107000 x107001 x107002 x107003) else (spec_SumRelation.l2 k x0 x5 x6 x7 x8 x9 x10 x11 (wrap64 (x12 + 1)) x107000 x107001 x107002 x107003)) else (if x6.length < 17592186044416 then (spec_SumRelation.l1 k x0 x5 (x6 ++ [x11]) (wrap64 (x7 + 1)) x107000 x107001 x107002 x107003) else (none))
end
def spec_SumRelation.f (k : Nat) (a0 : Int) : Option (Int × Int × (List (List Int)) × List Bool × Bool) := (spec_l1In.f a0 2 3).bind fun t102 => (if t102 = true then (spec_SumRelation.l0 k a0 0 a0 3 ([] : List (List Int)) (([true, false, false] : List Bool))) else (some (0, 0, ([] : List (List Int)), ([] : List Bool), false)))
theorem spec_SumRelation.mono_l : ∀ k, (∀ y0 y1 y2 y3 y4 y5, LeO (spec_SumRelation.l0 k y0 y1 y2 y3 y4 y5) (spec_SumRelation.l0 (k + 1) y0 y1 y2 y3 y4 y5)) ∧ (∀ y0 y1 y2 y3 y4 y5 y6 y7, LeO (spec_SumRelation.l1 k y0 y1 y2 y3 y4 y5 y6 y7) (spec_SumRelation.l1 (k + 1) y0 y1 y2 y3 y4 y5 y6 y7)) ∧ (∀ y0 y1 y2 y3 y4 y5 y6 y7 y8 y9 y10 y11 y12, LeO (spec_SumRelation.l2 k y0 y1 y2 y3 y4 y5 y6 y7 y8 y9 y10 y11 y12) (spec_SumRelation.l2 (k + 1) y0 y1 y2 y3 y4 y5 y6 y7 y8 y9 y10 y11 y12)) ∧ (∀ y0 y1 y2 y3 y4 y5 y6 y7 y8 y9 y10 y11 y12 y13, LeO (spec_SumRelation.j3 k y0 y1 y2 y3 y4 y5 y6 y7 y8 y9 y10 y11 y12 y13) (spec_SumRelation.j3 (k + 1) y0 y1 y2 y3 y4 y5 y6 y7 y8 y9 y10 y11 y12 y13))
 | 0 => ⟨fun _ _ _ _ _ _ r h => by simp [spec_SumRelation.l0] at h, fun _ _ _ _ _ _ _ _ r h => by simp [spec_SumRelation.l1] at h, fun _ _ _ _ _ _ _ _ _ _ _ _ _ r h => by simp [spec_SumRelation.l2] at h, fun _ _ _ _ _ _ _ _ _ _ _ _ _ _ r h => by simp [spec_SumRelation.j3] at h⟩
 | k + 1 => by
  obtain ⟨ih0, ih1, ih2, ih3⟩ := spec_SumRelation.mono_l k
  refine ⟨?_, ?_, ?_, ?_⟩ <;> intros <;> first | unfold spec_SumRelation.l0 | unfold spec_SumRelation.l1 | unfold spec_SumRelation.l2 | unfold spec_SumRelation.j3
  all_goals repeat' (with_reducible first | exact ih0 _ _ _ _ _ _ | exact ih1 _ _ _ _ _ _ _ _ | exact ih2 _ _ _ _ _ _ _ _ _ _ _ _ _ | exact ih3 _ _ _ _ _ _ _ _ _ _ _ _ _ _ | exact LeO.refl _ | exact LeO.none _ | refine LeO.ite ?_ ?_ | refine LeO.bind ?_ fun _ => ?_)
theorem spec_SumRelation.mono : ∀ a0 k, LeO (spec_SumRelation.f k a0) (spec_SumRelation.f (k + 1) a0) := by
 intro a0 k
 obtain ⟨ih0, ih1, ih2, ih3⟩ := spec_SumRelation.mono_l k
 unfold spec_SumRelation.f
 repeat' (with_reducible first | exact ih0 _ _ _ _ _ _ | exact ih1 _ _ _ _ _ _ _ _ | exact ih2 _ _ _ _ _ _ _ _ _ _ _ _ _ | exact ih3 _ _ _ _ _ _ _ _ _ _ _ _ _ _ | exact LeO.refl _ | exact LeO.none _ | refine LeO.ite ?_ ?_ | refine LeO.bind ?_ fun _ => ?_)
set_option maxHeartbeats 8000000 in
set_option maxRecDepth 100000 in
theorem spec_SumRelation.calls (k : Nat) (a0 : Int) (r1 : Int) (r2 : Int) (r3 : List (List Int)) (r4 : List Bool) (r5 : Bool) (w : World) (h : spec_SumRelation.f k a0 = some (r1, r2, r3, r4, r5)) :
  Calls Try.prog 15 #[.int .i64 a0] w fun e w' => ∃ v2_ v3_ : Value, e = .returned (.tuple #[.agg #[.int .i64 r1, .int .i64 r2, v2_, v3_], .bool r5]) ∧ Kd.S (Kd.slice 3 (Kd.int .i64)) 38 w' w.heap.size (fun _ => True) v2_ r3 ∧ Kd.R Kd.bool 4 w' w.heap.size (fun _ => True) v3_ r4 ∧ Below w.heap.size w w' := by
 have hu25 := Try.underlying25
 have HB := yA (zV w.heap.size w)
 have H : ((spec_l1In.f a0 2 3).bind fun t102 => (if t102 = true then (spec_SumRelation.l0 k a0 0 a0 3 ([] : List (List Int)) (([true, false, false] : List Bool))) else (some (0, 0, ([] : List (List Int)), ([] : List Bool), false)))) = some (r1, r2, r3, r4, r5) := h
 clear h
 obtain ⟨t102, A2, H⟩ := bE H
 by_cases c3 : t102 = true
 ·subst c3
  replace H := iT H
  (first | ((with_reducible replace H := bS H); obtain ⟨y103, Ny103, H⟩ := H) | (obtain ⟨y103, Ny103⟩ : ∃ y_ : List Bool, y_ = (([true, false, false] : List Bool)) := ⟨_, rfl⟩; rw [← Ny103] at H; replace Ny103 := yA Ny103))
  have H' := yA H
  clear H
  go_enter Try.func15, Try.ntmps15
  go_wp2_with (first | ((with_reducible refine gate_dst (N := 2) rfl ?_); refine box_event ?hg (N := 2) ?hd (cs := #[.int .i64 0, .int .i64 0, .slice none 0 0, .slice none 0 0]) (t := 25) ?hr ?_; (case hd => rfl); (case hg => rfl); (case hr => first | (go_simp; done) | (go_simp; rfl)); intro gb101 hg w4 hbox hb; have BK101 := yA (hbox); have GW101 := yA ((by rw [hg]; exact (yX (mB HB.out)) : w.heap.size ≤ gb101)); have GE101 := yA ((by rw [hg]; exact (yX (mB HB.out)) : w.heap.size ≤ gb101)); replace HB := yA (zD (mB HB.out) hb); clear hb hbox hg) | ((with_reducible refine zS (f := 51) rfl ?_); refine goesL_ (some 14) rfl rfl Try.func51 (by kernel_rfl) rfl #[.int .i64 a0, .int .i64 2, .int .i64 3] rfl (by (try simp only [zI, zJ, zK]); first | done | rfl | (simp only [zL, zM]; rfl)) ?_; (with_reducible refine (spec_l1In.calls a0 2 3 true _ A2.out).mono ?_); rintro e w' ⟨rfl, ⟨nd, rfl⟩⟩; refine ⟨_, rfl, ?_⟩; (try (rw [drewN_self w4]; generalize hq_ : World.drewN w4 _ = w4; have n0_ : Aside0 (w4.heap[gb101]? = some (.cells #[.int .i64 0, .int .i64 0, .slice none 0 0, .slice none 0 0] 25 (0, 0))) := ⟨by rw [← hq_]; exact (mK BK101.out)⟩; have n1_ : Aside0 (Below w.heap.size w w4) := ⟨by rw [← hq_]; exact (by with_reducible repeat first | exact HB.out | apply yO | apply yN | apply yP | refine yQ ?_ GE101.out)⟩; clear BK101 HB hq_; have BK101 := n0_; have HB := n1_; clear n0_ n1_))) | ((with_reducible refine gate_dst (N := 18) rfl ?_); refine Kd.R_lit Kd.bool _ 4 ?hg (N := 18) ?hd (xs := ([true, false, false] : List Bool)) (inner := [.bool true, .bool false, .bool false]) (ok := fun _ => True) (okp := fun _ => True) ?hr ?hp (fun _ hk => hk) trivial (zV _ _) (zT _) (by simp) ?_; (case hd => rfl); (case hg => rfl); (case hr => first | (go_simp; done) | (go_simp; rfl)); (case hp => exact (Reps.one (show Kd.M Kd.bool _ _ _ true [.bool true] from rfl) (Reps.one (show Kd.M Kd.bool _ _ _ false [.bool false] from rfl) (Reps.one (show Kd.M Kd.bool _ _ _ false [.bool false] from rfl) (Reps.none _ _))))); intro v104 w5 ho6 hb hg_ hnew_; clear hg_ hnew_; (first | rw [← Ny103.out] at ho6 | (simp only [Int.reduceToNat] at ho6; rw [← Ny103.out] at ho6)); have HO105 := yA (Kd.R_lower ho6 (yX (by with_reducible repeat first | exact HB.out | apply yO | apply yN | apply yP | refine yQ ?_ GE101.out))); replace BK101 := yA (yU (mK BK101.out) hb); replace HB := yA (zD (by with_reducible repeat first | exact HB.out | apply yO | apply yN | apply yP | refine yQ ?_ GE101.out) hb); clear hb ho6; obtain ⟨Ao7, co7, eo7⟩ := Kd.R_slice HO105.out; subst eo7) | ((with_reducible refine gate_dst (N := 4) rfl ?_); refine box_event ?hg (N := 4) ?hd (cs := #[.int .i64 0, .int .i64 0, .slice none 0 0, .slice none 0 0]) (t := 25) ?hr ?_; (case hd => rfl); (case hg => rfl); (case hr => first | (go_simp; done) | (go_simp; rfl)); intro gb106 hg w8 hbox hb; replace HO105 := yA (yK (mR HO105.out) hb); have BK106 := yA (hbox); have GW106 := yA ((by rw [hg]; exact (yX (by with_reducible repeat first | exact HB.out | apply yO | apply yN | apply yP | refine yQ ?_ GE101.out)) : w.heap.size ≤ gb106)); have GE106 := yA ((by rw [hg]; exact (yX (by with_reducible repeat first | exact HB.out | apply yO | apply yN | apply yP | refine yQ ?_ GE101.out)) : w.heap.size ≤ gb106)); replace HB := yA (zD (by with_reducible repeat first | exact HB.out | apply yO | apply yN | apply yP | refine yQ ?_ GE101.out) hb); have NB101_106 := yA ((by rw [hg]; exact Nat.ne_of_lt (zX (mK BK101.out)) : gb101 ≠ gb106)); have NB106_101 := yA ((by rw [hg]; exact Nat.ne_of_gt (zX (mK BK101.out)) : gb106 ≠ gb101)); replace BK101 := yA (yU (mK BK101.out) hb); clear hb hbox hg; have hnb9 := NB106_101.out; have hnc9 := NB101_106.out; have hcz10_0 : w8.cell? ⟨gb106, 0, none⟩ = some (.int .i64 0) := (yV BK106.out 0).trans rfl; have hcz10_1 : w8.cell? ⟨gb106, 1, none⟩ = some (.int .i64 0) := (yV BK106.out 1).trans rfl; have hcz10_2 : w8.cell? ⟨gb106, 2, none⟩ = some (.slice none 0 0) := (yV BK106.out 2).trans rfl; have hcz10_3 : w8.cell? ⟨gb106, 3, none⟩ = some (.slice none 0 0) := (yV BK106.out 3).trans rfl; have hfz10_0 := yW BK106.out 0; have hfz10_1 := yW BK106.out 1; have hfz10_2 := yW BK106.out 2; have hfz10_3 := yW BK106.out 3))
  go_loopg [5] k (fun kq v5 w' => ∃ (x5_1 : Int) (x107002_1 : List (List Int)) (u107002 : Value), v5 = .int .i64 x5_1 ∧ Aside0 (spec_SumRelation.l0 kq a0 x5_1 a0 3 x107002_1 y103 = some (r1, r2, r3, r4, r5)) ∧ Aside0 (kq ≤ k) ∧ Aside0 (Kd.S (Kd.slice 3 (Kd.int .i64)) 38 w' w.heap.size (fun _ => True) u107002 x107002_1) ∧ Aside0 (Kd.R Kd.bool 4 w' w.heap.size (fun _ => True) (.slice Ao7 y103.length co7) y103) ∧ Aside0 (w'.heap[gb101]? = some (.cells #[.int .i64 0, .int .i64 0, (.slice none 0 0), (.slice none 0 0)] 25 (0, 0))) ∧ Aside0 (w'.heap[gb106]? = some (.cells #[.int .i64 a0, .int .i64 3, u107002, (.slice Ao7 y103.length co7)] 25 (0, 0))) ∧ Aside0 (Below w.heap.size w w'))
  case atStart => exact ⟨(0), (([] : List (List Int))), (.slice none 0 0), (by first | rfl | (simp; done) | (simp [*]; done)), H', ⟨zT _⟩, ⟨by first | exact Kd.S_nil _ _ _ _ _ | exact Kd.N_nil _ _ _ _ _ | exact Kd.V_nil _ _ _ _ _ | exact Kd.Q_nil _ _ _ _ _ | exact Kd.R_nil _ _ _ _ _⟩, ⟨by (with_reducible repeat (first | apply yB | apply yC | apply yD)); exact zP (zQ (p := ⟨gb106, 3, none⟩) (zQ (p := ⟨gb106, 2, none⟩) (zQ (p := ⟨gb106, 1, none⟩) (zQ (p := ⟨gb106, 0, none⟩) (zR HO105.out BK106.out (by decide)) (fun _ hk => hk.2) (.int .i64 a0)) (fun _ hk => hk.2) (.int .i64 3)) (fun _ hk => hk.2) (.slice none 0 0)) (fun _ hk => hk.2) (.slice Ao7 y103.length co7)) (fun _ hk => trivial)⟩, ⟨by (with_reducible repeat (first | refine yS ?_ _ | refine yT ?_ | refine yR ?_ _)); refine blk_far ?_ NB101_106.out _; (with_reducible repeat (first | refine yS ?_ _ | refine yT ?_ | refine yR ?_ _)); refine blk_far ?_ NB101_106.out _; (with_reducible repeat (first | refine yS ?_ _ | refine yT ?_ | refine yR ?_ _)); refine blk_far ?_ NB101_106.out _; (with_reducible repeat (first | refine yS ?_ _ | refine yT ?_ | refine yR ?_ _)); refine blk_far ?_ NB101_106.out _; (with_reducible repeat (first | refine yS ?_ _ | refine yT ?_ | refine yR ?_ _)); exact BK101.out⟩, ⟨by (with_reducible repeat (first | refine yS ?_ _ | refine yT ?_ | refine yR ?_ _)); refine blk_put (cs := #[.int .i64 a0, .int .i64 3, .slice none 0 0, .slice none 0 0]) ?_ 3 _ rfl; (with_reducible repeat (first | refine yS ?_ _ | refine yT ?_ | refine yR ?_ _)); refine blk_put (cs := #[.int .i64 a0, .int .i64 3, .slice none 0 0, .slice none 0 0]) ?_ 2 _ rfl; (with_reducible repeat (first | refine yS ?_ _ | refine yT ?_ | refine yR ?_ _)); refine blk_put (cs := #[.int .i64 a0, .int .i64 0, .slice none 0 0, .slice none 0 0]) ?_ 1 _ rfl; (with_reducible repeat (first | refine yS ?_ _ | refine yT ?_ | refine yR ?_ _)); refine blk_put (cs := #[.int .i64 0, .int .i64 0, .slice none 0 0, .slice none 0 0]) ?_ 0 _ rfl; (with_reducible repeat (first | refine yS ?_ _ | refine yT ?_ | refine yR ?_ _)); exact BK106.out⟩, ⟨by repeat (first | (with_reducible first | exact HB.out | apply yO | apply yN | apply yP | refine yQ ?_ GE101.out | refine yQ ?_ GE106.out) | exact HB.out)⟩⟩
  case round =>
   clear H'
   (try clear c1);(try clear p2);(try clear c3);(try clear c5);(try clear c9);(try clear hcz10_0);(try clear hcz10_1);(try clear hcz10_2);(try clear hcz10_3);(try clear hfz10_0);(try clear hfz10_1);(try clear hfz10_2);(try clear hfz10_3)
   obtain ⟨x5_1, x107002_1, u107002, rfl, HA, HK1, HO_107002, HO_107003, BK101, BK106, HB⟩ := hrel
   cases gk with
   | zero => exact absurd HA.out (by simp [spec_SumRelation.l0])
   | succ k1 =>
    have H := HA.out
    clear HA
    simp only [spec_SumRelation.l0] at H
    by_cases c11 : x5_1 < 3
    ·rw [if_pos c11] at H
     have c11b0 : decide (x5_1 < 3) = true := zH c11
     clear c11
     (first | ((with_reducible replace H := bS H); obtain ⟨y107, Ny107, H⟩ := H) | (obtain ⟨y107, Ny107⟩ : ∃ y_ : List Int, y_ = (([] : List Int)) := ⟨_, rfl⟩; rw [← Ny107] at H; replace Ny107 := yA Ny107))
     have H' := yA H
     clear H
     go_wp2_with (first | ((with_reducible refine gate_dst (N := 24) rfl ?_); refine Kd.R_lit (Kd.int .i64) _ 3 ?hg (N := 24) ?hd (xs := ([] : List Int)) (inner := []) (ok := fun _ => True) (okp := fun _ => True) ?hr ?hp (fun _ hk => hk) trivial (zV _ _) (zT _) (by simp) ?_; (case hd => rfl); (case hg => rfl); (case hr => first | (go_simp; done) | (go_simp; rfl)); (case hp => exact (Reps.none _ _)); intro v108 w12 ho13 hb hg_ hnew_; clear hg_ hnew_; (first | rw [← Ny107.out] at ho13 | (simp only [Int.reduceToNat] at ho13; rw [← Ny107.out] at ho13)); replace HO_107002 := yA (Kd.S_elder' (mS HO_107002.out) (yY ho13) hb); replace HO_107003 := yA (yK (mR HO_107003.out) hb); have HO109 := yA (Kd.R_lower ho13 (yX (by with_reducible repeat first | exact HB.out | apply yO | apply yN | apply yP | refine yQ ?_ GE101.out | refine yQ ?_ GE106.out))); replace BK101 := yA (yU (mK BK101.out) hb); replace BK106 := yA (yU (mK BK106.out) hb); replace HB := yA (zD (by with_reducible repeat first | exact HB.out | apply yO | apply yN | apply yP | refine yQ ?_ GE101.out | refine yQ ?_ GE106.out) hb); clear hb ho13))
     go_loopg [6, 7] k1 (fun kq v6 v7 w' => ∃ (x6_2 : List Int) (x7_2 : Int), v7 = .int .i64 x7_2 ∧ Aside0 (spec_SumRelation.l1 kq a0 x5_1 x6_2 x7_2 a0 3 x107002_1 y103 = some (r1, r2, r3, r4, r5)) ∧ Aside0 (kq ≤ k1) ∧ Aside0 (Kd.R (Kd.int .i64) 3 w' w.heap.size (fun _ => True) v6 x6_2) ∧ Aside0 (Kd.S (Kd.slice 3 (Kd.int .i64)) 38 w' w.heap.size (fun k_ => some k_ ≠ (v6 : Value).ownBlock) u107002 x107002_1) ∧ Aside0 (Kd.R Kd.bool 4 w' w.heap.size (fun _ => True) (.slice Ao7 y103.length co7) y103) ∧ Aside0 (w'.heap[gb101]? = some (.cells #[.int .i64 0, .int .i64 0, (.slice none 0 0), (.slice none 0 0)] 25 (0, 0))) ∧ Aside0 (w'.heap[gb106]? = some (.cells #[.int .i64 a0, .int .i64 3, u107002, (.slice Ao7 y103.length co7)] 25 (0, 0))) ∧ Aside0 (Below w.heap.size w w'))
     case atStart => exact ⟨(y107), (0), (by first | rfl | (simp; done) | (simp [*]; done)), H', ⟨zT _⟩, ⟨mR HO109.out⟩, ⟨by (with_reducible repeat (first | apply yH | apply yI | apply yJ)); exact Kd.S_mono HO_107002.out (fun _ hk => hk.2)⟩, ⟨mR HO_107003.out⟩, ⟨mK BK101.out⟩, ⟨mK BK106.out⟩, ⟨by repeat (first | (with_reducible first | exact HB.out | apply yO | apply yN | apply yP | refine yQ ?_ GE101.out | refine yQ ?_ GE106.out) | exact HB.out)⟩⟩
     case round =>
      clear H'
      (try clear c1);(try clear p2);(try clear c3);(try clear c5);(try clear c9);(try clear c11);(try clear c11b0);(try clear hcz10_0);(try clear hcz10_1);(try clear hcz10_2);(try clear hcz10_3);(try clear hfz10_0);(try clear hfz10_1);(try clear hfz10_2);(try clear hfz10_3);(try clear p2)
      obtain ⟨x6_2, x7_2, rfl, HA, HK2, HO_6, HO_107002, HO_107003, BK101, BK106, HB⟩ := hrel
      cases gk with
      | zero => exact absurd HA.out (by simp [spec_SumRelation.l1])
      | succ k2 =>
       have H := HA.out
       clear HA
       simp only [spec_SumRelation.l1] at H
       by_cases c14 : x7_2 < (wrap64 ((wrap64 (a0 * a0)) * a0))
       ·rw [if_pos c14] at H
        have c14b0 : decide (x7_2 < (wrap64 ((wrap64 (a0 * a0)) * a0))) = true := zH c14
        clear c14
        by_cases c15 : (wrap64 (a0 * a0)) = 0
        ·rw [if_pos c15] at H
         exact absurd H (by simp)
        ·rw [if_neg c15] at H
         have c15b0 : ((wrap64 (a0 * a0)) == 0) = false := beq_eq_false_iff_ne.mpr c15
         have c15b1 : ((wrap64 (a0 * a0)) != 0) = true := bne_iff_ne.mpr c15
         by_cases c16 : a0 = 0
         ·rw [if_pos c16] at H
          exact absurd H (by simp)
         ·rw [if_neg c16] at H
          have c16b0 : (a0 == 0) = false := beq_eq_false_iff_ne.mpr c16
          have c16b1 : (a0 != 0) = true := bne_iff_ne.mpr c16
          have H' := yA H
          clear H
          go_wp2
          go_loopg [11, 12] k2 (fun kq v11 v12 w' => ∃ (x11_3 : Int) (x12_3 : Int), v11 = .int .i64 x11_3 ∧ v12 = .int .i64 x12_3 ∧ Aside0 (spec_SumRelation.l2 kq a0 x5_1 x6_2 x7_2 (wrap64 (Int.tdiv x7_2 (wrap64 (a0 * a0)))) (Int.tmod (wrap64 (Int.tdiv x7_2 a0)) a0) (Int.tmod x7_2 a0) x11_3 x12_3 a0 3 x107002_1 y103 = some (r1, r2, r3, r4, r5)) ∧ Aside0 (kq ≤ k2) ∧ Aside0 (Kd.R (Kd.int .i64) 3 w' w.heap.size (fun _ => True) u6 x6_2) ∧ Aside0 (Kd.S (Kd.slice 3 (Kd.int .i64)) 38 w' w.heap.size (fun k_ => some k_ ≠ (u6 : Value).ownBlock) u107002 x107002_1) ∧ Aside0 (Kd.R Kd.bool 4 w' w.heap.size (fun _ => True) (.slice Ao7 y103.length co7) y103) ∧ Aside0 (w'.heap[gb101]? = some (.cells #[.int .i64 0, .int .i64 0, (.slice none 0 0), (.slice none 0 0)] 25 (0, 0))) ∧ Aside0 (w'.heap[gb106]? = some (.cells #[.int .i64 a0, .int .i64 3, u107002, (.slice Ao7 y103.length co7)] 25 (0, 0))) ∧ Aside0 (Below w.heap.size w w'))
          case atStart => exact ⟨(2), (0), (by first | rfl | (simp; done) | (simp [*]; done)), (by first | rfl | (simp; done) | (simp [*]; done)), H', ⟨zT _⟩, ⟨mR HO_6.out⟩, ⟨mS HO_107002.out⟩, ⟨mR HO_107003.out⟩, ⟨mK BK101.out⟩, ⟨mK BK106.out⟩, ⟨by repeat (first | (with_reducible first | exact HB.out | apply yO | apply yN | apply yP | refine yQ ?_ GE101.out | refine yQ ?_ GE106.out) | exact HB.out)⟩⟩
          case round =>
           clear H'
           (try clear c1);(try clear p2);(try clear c3);(try clear c5);(try clear p6);(try clear c9);(try clear c11);(try clear c11b0);(try clear c14);(try clear c14b0);(try clear c15);(try clear c15b0);(try clear c15b1);(try clear c16);(try clear c16b0);(try clear c16b1);(try clear hcz10_0);(try clear hcz10_1);(try clear hcz10_2);(try clear hcz10_3);(try clear hfz10_0);(try clear hfz10_1);(try clear hfz10_2);(try clear hfz10_3);(try clear p2)
           obtain ⟨x11_3, x12_3, rfl, rfl, HA, HK3, HO_6, HO_107002, HO_107003, BK101, BK106, HB⟩ := hrel
           cases gk with
           | zero => exact absurd HA.out (by simp [spec_SumRelation.l2])
           | succ k3 =>
            have H := HA.out
            clear HA
            simp only [spec_SumRelation.l2] at H
            have HC17 := yA H
            clear H
            go_upto_region 16 with (fail)
            go_cut [52] (fun v52 wc => ∃ (kq : Nat) (x52_16 : Bool), v52 = .bool x52_16 ∧ Aside0 (spec_SumRelation.j3 kq a0 x5_1 x6_2 x7_2 (wrap64 (Int.tdiv x7_2 (wrap64 (a0 * a0)))) (Int.tmod (wrap64 (Int.tdiv x7_2 a0)) a0) (Int.tmod x7_2 a0) x11_3 x12_3 x52_16 a0 3 x107002_1 y103 = some (r1, r2, r3, r4, r5)) ∧ Aside0 (kq ≤ k3) ∧ Aside0 (Kd.R (Kd.int .i64) 3 wc w.heap.size (fun _ => True) u6 x6_2) ∧ Aside0 (Kd.S (Kd.slice 3 (Kd.int .i64)) 38 wc w.heap.size (fun k_ => some k_ ≠ (u6 : Value).ownBlock) u107002 x107002_1) ∧ Aside0 (Kd.R Kd.bool 4 wc w.heap.size (fun _ => True) (.slice Ao7 y103.length co7) y103) ∧ Aside0 (wc.heap[gb101]? = some (.cells #[.int .i64 0, .int .i64 0, (.slice none 0 0), (.slice none 0 0)] 25 (0, 0))) ∧ Aside0 (wc.heap[gb106]? = some (.cells #[.int .i64 a0, .int .i64 3, u107002, (.slice Ao7 y103.length co7)] 25 (0, 0))) ∧ Aside0 (Below w.heap.size w wc))
            case first =>
             have H := HC17.out
             clear HC17
             by_cases c18 : x12_3 < 2
             ·rw [if_pos c18] at H
              have c18b0 : decide (x12_3 < 2) = true := zH c18
              clear c18
              (first | rw [c18b0] | (simp only [i64_w, i32_w]; rw [c18b0]) | skip)
              have H' := yA H
              clear H
              go_wp2
              go_meet
              case rel => exact ⟨_, (decide (x5_1 < 2)), (by first | rfl | (simp; done) | (simp [*]; done)), H', ⟨by have := HK1.out; have := HK2.out; have := HK3.out; first | omega | exact zT _⟩, ⟨mR HO_6.out⟩, ⟨mS HO_107002.out⟩, ⟨mR HO_107003.out⟩, ⟨mK BK101.out⟩, ⟨mK BK106.out⟩, ⟨by repeat (first | (with_reducible first | exact HB.out | apply yO | apply yN | apply yP | refine yQ ?_ GE101.out | refine yQ ?_ GE106.out) | exact HB.out)⟩⟩
             ·rw [if_neg c18] at H
              have c18b0 : decide (x12_3 < 2) = false := decide_eq_false c18
              clear c18
              (first | rw [c18b0] | (simp only [i64_w, i32_w]; rw [c18b0]) | skip)
              have H' := yA H
              clear H
              go_wp2
              go_meet
              case rel => exact ⟨_, (false), (by first | rfl | (simp; done) | (simp [*]; done)), H', ⟨by have := HK1.out; have := HK2.out; have := HK3.out; first | omega | exact zT _⟩, ⟨mR HO_6.out⟩, ⟨mS HO_107002.out⟩, ⟨mR HO_107003.out⟩, ⟨mK BK101.out⟩, ⟨mK BK106.out⟩, ⟨by repeat (first | (with_reducible first | exact HB.out | apply yO | apply yN | apply yP | refine yQ ?_ GE101.out | refine yQ ?_ GE106.out) | exact HB.out)⟩⟩
            case rest =>
             clear HC17
             (try clear c1);(try clear p2);(try clear c3);(try clear c5);(try clear p6);(try clear c9);(try clear c11);(try clear c11b0);(try clear c14);(try clear c14b0);(try clear c15);(try clear c15b0);(try clear c15b1);(try clear c16);(try clear c16b0);(try clear c16b1);(try clear c18);(try clear c18b0);(try clear hcz10_0);(try clear hcz10_1);(try clear hcz10_2);(try clear hcz10_3);(try clear hfz10_0);(try clear hfz10_1);(try clear hfz10_2);(try clear hfz10_3);(try clear p2);(try clear p6)
             obtain ⟨kq, x52_16, rfl, HA, HJ16, HO_6, HO_107002, HO_107003, BK101, BK106, HB⟩ := hcut
             cases kq with
             | zero => exact absurd HA.out (by simp [spec_SumRelation.j3])
             | succ kj16 =>
              have H := HA.out
              clear HA
              simp only [spec_SumRelation.j3] at H
              by_cases c19 : x52_16 = true
              ·subst c19
               replace H := iT H
               by_cases c20 : (wrap64 ((wrap64 ((wrap64 (Int.tdiv x7_2 (wrap64 (a0 * a0)))) + (Int.tmod (wrap64 (Int.tdiv x7_2 a0)) a0))) + x12_3)) = (wrap64 ((Int.tmod x7_2 a0) + (wrap64 (x5_1 * a0))))
               ·rw [if_pos c20] at H
                have c20b0 : ((wrap64 ((wrap64 ((wrap64 (Int.tdiv x7_2 (wrap64 (a0 * a0)))) + (Int.tmod (wrap64 (Int.tdiv x7_2 a0)) a0))) + x12_3)) == (wrap64 ((Int.tmod x7_2 a0) + (wrap64 (x5_1 * a0))))) = true := beq_iff_eq.mpr c20
                have c20b1 : ((wrap64 ((wrap64 ((wrap64 (Int.tdiv x7_2 (wrap64 (a0 * a0)))) + (Int.tmod (wrap64 (Int.tdiv x7_2 a0)) a0))) + x12_3)) != (wrap64 ((Int.tmod x7_2 a0) + (wrap64 (x5_1 * a0))))) = false := bne_eq_false_iff_eq.mpr c20
                clear c20
                have H' := yA H
                clear H
                go_wp2
                go_roundg kj16
                case measure => have := HK1.out; have := HK2.out; have := HK3.out; have := HJ16.out; omega
                case rel => exact ⟨(x12_3), (wrap64 (x12_3 + 1)), (by first | rfl | (simp; done) | (simp [*]; done)), (by first | rfl | (simp; done) | (simp [*]; done)), H', ⟨by have := HK1.out; have := HK2.out; have := HK3.out; have := HJ16.out; omega⟩, ⟨mR HO_6.out⟩, ⟨mS HO_107002.out⟩, ⟨mR HO_107003.out⟩, ⟨mK BK101.out⟩, ⟨mK BK106.out⟩, ⟨by repeat (first | (with_reducible first | exact HB.out | apply yO | apply yN | apply yP | refine yQ ?_ GE101.out | refine yQ ?_ GE106.out) | exact HB.out)⟩⟩
               ·rw [if_neg c20] at H
                have c20b0 : ((wrap64 ((wrap64 ((wrap64 (Int.tdiv x7_2 (wrap64 (a0 * a0)))) + (Int.tmod (wrap64 (Int.tdiv x7_2 a0)) a0))) + x12_3)) == (wrap64 ((Int.tmod x7_2 a0) + (wrap64 (x5_1 * a0))))) = false := beq_eq_false_iff_ne.mpr c20
                have c20b1 : ((wrap64 ((wrap64 ((wrap64 (Int.tdiv x7_2 (wrap64 (a0 * a0)))) + (Int.tmod (wrap64 (Int.tdiv x7_2 a0)) a0))) + x12_3)) != (wrap64 ((Int.tmod x7_2 a0) + (wrap64 (x5_1 * a0))))) = true := bne_iff_ne.mpr c20
                have H' := yA H
                clear H
                go_wp2
                go_roundg kj16
                case measure => have := HK1.out; have := HK2.out; have := HK3.out; have := HJ16.out; omega
                case rel => exact ⟨(x11_3), (wrap64 (x12_3 + 1)), (by first | rfl | (simp; done) | (simp [*]; done)), (by first | rfl | (simp; done) | (simp [*]; done)), H', ⟨by have := HK1.out; have := HK2.out; have := HK3.out; have := HJ16.out; omega⟩, ⟨mR HO_6.out⟩, ⟨mS HO_107002.out⟩, ⟨mR HO_107003.out⟩, ⟨mK BK101.out⟩, ⟨mK BK106.out⟩, ⟨by repeat (first | (with_reducible first | exact HB.out | apply yO | apply yN | apply yP | refine yQ ?_ GE101.out | refine yQ ?_ GE106.out) | exact HB.out)⟩⟩
              ·replace c19 := Bool.eq_false_iff.mpr c19
               subst c19
               replace H := iF H
               obtain ⟨c21, H⟩ := iP H
               have LMc21 := yA c21
               clear c21
               (first | ((with_reducible replace H := bS H); obtain ⟨y113, Ny113, H⟩ := H) | (obtain ⟨y113, Ny113⟩ : ∃ y_ : List Int, y_ = (x6_2 ++ [x11_3]) := ⟨_, rfl⟩; rw [← Ny113] at H; replace Ny113 := yA Ny113))
               have H' := yA H
               clear H
               go_wp2_with (first | ((with_reducible refine gate_builtin (b := .append) (xs := #[.tmp 67, .tmp 69]) rfl ?_); at_builtin; refine Kd.R_append (Kd.int .i64) (w0 := w) w.heap.size rfl (.tmp 67) (.tmp 69) 38 3 (.int .i64 0) 8 rfl Try.underlying38 info3 rfl (by decide) (by omega) u6 x6_2 x11_3 [.int .i64 x11_3] (fun _ => True) (fun _ => False) rfl rfl ?aP (fun _ hk => hk.elim) ?aF ?aO ?aB ?aS ?aL ?_; (case aP => exact rfl); (case aB => exact (by with_reducible repeat first | exact HB.out | apply yO | apply yN | apply yP | refine yQ ?_ GE101.out | refine yQ ?_ GE106.out)); (case aF => exact (fun _ _ => trivial)); (case aO => exact (mR HO_6.out)); (case aS => exact (yX (by with_reducible repeat first | exact HB.out | apply yO | apply yN | apply yP | refine yQ ?_ GE101.out | refine yQ ?_ GE106.out))); (case aL => have := LMc21.out; omega); intro v114 w22 ho hb hg hat; rw [← Ny113.out] at ho; replace HO_107002 := yA (Kd.S_after (ok := (fun _ => True)) (mS (Kd.S_mono HO_107002.out (fun _ hk => ⟨trivial, hk⟩))) hg hat); replace HO_107003 := yA (Kd.R_over' (mR HO_107003.out) (Kd.R_typed (mR HO_6.out)) (by decide) hg); replace BK101 := yA (blk_grown (g := gb101) (o := .cells #[.int .i64 0, .int .i64 0, .slice none 0 0, .slice none 0 0] 25 (0, 0)) (mK BK101.out) hg (zW HO_6.out BK101.out (by decide))); replace BK106 := yA (blk_grown (g := gb106) (o := .cells #[.int .i64 a0, .int .i64 3, u107002, .slice Ao7 y103.length co7] 25 (0, 0)) (mK BK106.out) hg (zW HO_6.out BK106.out (by decide))); replace HB := yA (hb); have HO115 := yA (ho); clear HO_6; clear ho hb hg hat))
               go_roundg kj16
               case measure => have := HK1.out; have := HK2.out; have := HK3.out; have := HJ16.out; omega
               case rel => exact ⟨(y113), (wrap64 (x7_2 + 1)), (by first | rfl | (simp; done) | (simp [*]; done)), H', ⟨by have := HK1.out; have := HK2.out; have := HK3.out; have := HJ16.out; omega⟩, ⟨mR HO115.out⟩, ⟨by (with_reducible repeat (first | apply yH | apply yI | apply yJ)); exact Kd.S_mono HO_107002.out (fun _ hk => hk.2)⟩, ⟨mR HO_107003.out⟩, ⟨mK BK101.out⟩, ⟨mK BK106.out⟩, ⟨by repeat (first | (with_reducible first | exact HB.out | apply yO | apply yN | apply yP | refine yQ ?_ GE101.out | refine yQ ?_ GE106.out) | exact HB.out)⟩⟩
       ·rw [if_neg c14] at H
        have c14b0 : decide (x7_2 < (wrap64 ((wrap64 (a0 * a0)) * a0))) = false := decide_eq_false c14
        clear c14
        obtain ⟨c23, H⟩ := iP H
        have LMc23 := yA c23
        clear c23
        (first | ((with_reducible replace H := bS H); obtain ⟨y110, Ny110, H⟩ := H) | (obtain ⟨y110, Ny110⟩ : ∃ y_ : List (List Int), y_ = (x107002_1 ++ [x6_2]) := ⟨_, rfl⟩; rw [← Ny110] at H; replace Ny110 := yA Ny110))
        have H' := yA H
        clear H
        have hnb24 := NB106_101.out
        have hnc24 := NB101_106.out
        obtain ⟨hcz25_0, hcz25_1, hcz25_2, hcz25_3⟩ := cz4 BK106.out
        obtain ⟨hfz25_0, hfz25_1, hfz25_2, hfz25_3⟩ := fz4 BK106.out
        obtain ⟨Ao27, co27, eo27⟩ := Kd.R_slice HO_6.out
        subst eo27
        go_wp2_with (first | ((with_reducible refine gate_builtin (b := .append) (xs := #[.tmp 72, .tmp 74]) rfl ?_); at_builtin; refine Kd.S_append (Kd.slice 3 (Kd.int .i64)) (w0 := w) w.heap.size rfl (.tmp 72) (.tmp 74) 22 38 (.slice none 0 0) 24 rfl Try.underlying22 info38 rfl (by decide) (by omega) u107002 x107002_1 x6_2 [.slice Ao27 x6_2.length co27] (fun _ => True) (fun k_ => some k_ = (.slice Ao27 x6_2.length co27 : Value).ownBlock) rfl rfl ?aP (fun k_ hk_ => ((zP (ok' := fun k_ => ((fun _ => True)) k_ ∧ some k_ ≠ (u107002 : Value).ownBlock) (Kd.R_apart' (HO_6.out) (Kd.S_typed HO_107002.out) (by decide)) (fun k_ hk => ⟨trivial, hk.2⟩))).1 k_ hk_.symm) ?aF ?aO ?aB ?aS ?aL ?_; (case aP => exact Kd.M_row (zP (Kd.R_tight rfl (zP (ok' := fun k_ => ((fun _ => True)) k_ ∧ some k_ ≠ (u107002 : Value).ownBlock) (Kd.R_apart' (HO_6.out) (Kd.S_typed HO_107002.out) (by decide)) (fun k_ hk => ⟨trivial, hk.2⟩))) (fun _ h_ => h_))); (case aB => exact (by with_reducible repeat first | exact HB.out | apply yO | apply yN | apply yP | refine yQ ?_ GE101.out | refine yQ ?_ GE106.out)); (case aF => exact (fun _ _ => trivial)); (case aO => exact (mS (Kd.S_mono HO_107002.out (fun k_ hk => ⟨trivial, fun e_ => hk e_⟩)))); (case aS => exact (yX (by with_reducible repeat first | exact HB.out | apply yO | apply yN | apply yP | refine yQ ?_ GE101.out | refine yQ ?_ GE106.out))); (case aL => have := LMc23.out; omega); intro v111 w26 ho hb hg hat; rw [← Ny110.out] at ho; replace HO_107003 := yA (Kd.R_over' (mR HO_107003.out) (Kd.S_typed (mS HO_107002.out)) (by decide) hg); replace BK101 := yA (blk_grown (g := gb101) (o := .cells #[.int .i64 0, .int .i64 0, .slice none 0 0, .slice none 0 0] 25 (0, 0)) (mK BK101.out) hg (Kd.S_ne HO_107002.out BK101.out (by decide))); replace BK106 := yA (blk_grown (g := gb106) (o := .cells #[.int .i64 a0, .int .i64 3, u107002, .slice Ao7 y103.length co7] 25 (0, 0)) (mK BK106.out) hg (Kd.S_ne HO_107002.out BK106.out (by decide))); replace HB := yA (hb); have HO112 := yA (ho); clear HO_107002 HO_6; clear ho hb hg hat; obtain ⟨Ao28, co28, eo28⟩ := Kd.S_slice HO112.out; subst eo28; have hcz29_0 : w26.cell? ⟨gb106, 0, none⟩ = some (.int .i64 a0) := (yV BK106.out 0).trans rfl; have hcz29_1 : w26.cell? ⟨gb106, 1, none⟩ = some (.int .i64 3) := (yV BK106.out 1).trans rfl; have hcz29_2 : w26.cell? ⟨gb106, 2, none⟩ = some (u107002) := (yV BK106.out 2).trans rfl; have hcz29_3 : w26.cell? ⟨gb106, 3, none⟩ = some (.slice Ao7 y103.length co7) := (yV BK106.out 3).trans rfl; have hfz29_0 := yW BK106.out 0; have hfz29_1 := yW BK106.out 1; have hfz29_2 := yW BK106.out 2; have hfz29_3 := yW BK106.out 3))
        go_roundg k2
        case measure => have := HK1.out; have := HK2.out; omega
        case rel => exact ⟨(wrap64 (x5_1 + 1)), (y110), (.slice Ao28 y110.length co28), (by first | rfl | (simp; done) | (simp [*]; done)), H', ⟨by have := HK1.out; have := HK2.out; omega⟩, ⟨by (with_reducible repeat (first | apply yH | apply yI | apply yJ)); exact Kd.S_mono (Kd.S_far (p := ⟨gb106, 2, none⟩) (Kd.S_types HO112.out BK106.out (by decide)) (fun _ hk => hk.2) (.slice Ao28 y110.length co28)) (fun _ hk => trivial)⟩, ⟨by (with_reducible repeat (first | apply yB | apply yC | apply yD)); exact zP (zQ (p := ⟨gb106, 2, none⟩) (zR HO_107003.out BK106.out (by decide)) (fun _ hk => hk.2) (.slice Ao28 y110.length co28)) (fun _ hk => trivial)⟩, ⟨by (with_reducible repeat (first | refine yS ?_ _ | refine yT ?_ | refine yR ?_ _)); refine blk_far ?_ NB101_106.out _; (with_reducible repeat (first | refine yS ?_ _ | refine yT ?_ | refine yR ?_ _)); exact BK101.out⟩, ⟨by (with_reducible repeat (first | refine yS ?_ _ | refine yT ?_ | refine yR ?_ _)); refine blk_put (cs := #[.int .i64 a0, .int .i64 3, u107002, .slice Ao7 y103.length co7]) ?_ 2 _ rfl; (with_reducible repeat (first | refine yS ?_ _ | refine yT ?_ | refine yR ?_ _)); exact BK106.out⟩, ⟨by repeat (first | (with_reducible first | exact HB.out | apply yO | apply yN | apply yP | refine yQ ?_ GE101.out | refine yQ ?_ GE106.out) | exact HB.out)⟩⟩
    ·rw [if_neg c11] at H
     have c11b0 : decide (x5_1 < 3) = false := decide_eq_false c11
     clear c11
     simp only [Option.some.injEq, Prod.mk.injEq] at H
     obtain ⟨rfl, rfl, rfl, rfl, rfl⟩ := H
     have hnb30 := NB106_101.out
     have hnc30 := NB101_106.out
     obtain ⟨hcz31_0, hcz31_1, hcz31_2, hcz31_3⟩ := cz4 BK106.out
     obtain ⟨hfz31_0, hfz31_1, hfz31_2, hfz31_3⟩ := fz4 BK106.out
     obtain ⟨hcz32_0, hcz32_1, hcz32_2, hcz32_3⟩ := cz4 BK101.out
     obtain ⟨hfz32_0, hfz32_1, hfz32_2, hfz32_3⟩ := fz4 BK101.out
     obtain ⟨Ao33, co33, eo33⟩ := Kd.S_slice HO_107002.out
     subst eo33
     go_wp2
     refine bodyPost_ret (results_ct rfl _ _ gb101 25 #[.int .i64 a0, .int .i64 3, .slice Ao33 x107002_1.length co33, .slice Ao7 y103.length co7] (0, 0) _ rfl (by (with_reducible repeat (first | refine yS ?_ _ | refine yT ?_ | refine yR ?_ _)); refine blk_put (cs := #[.int .i64 a0, .int .i64 3, .slice Ao33 x107002_1.length co33, .slice none 0 0]) ?_ 3 _ rfl; (with_reducible repeat (first | refine yS ?_ _ | refine yT ?_ | refine yR ?_ _)); refine blk_put (cs := #[.int .i64 a0, .int .i64 3, .slice none 0 0, .slice none 0 0]) ?_ 2 _ rfl; (with_reducible repeat (first | refine yS ?_ _ | refine yT ?_ | refine yR ?_ _)); refine blk_put (cs := #[.int .i64 a0, .int .i64 0, .slice none 0 0, .slice none 0 0]) ?_ 1 _ rfl; (with_reducible repeat (first | refine yS ?_ _ | refine yT ?_ | refine yR ?_ _)); refine blk_put (cs := #[.int .i64 0, .int .i64 0, .slice none 0 0, .slice none 0 0]) ?_ 0 _ rfl; (with_reducible repeat (first | refine yS ?_ _ | refine yT ?_ | refine yR ?_ _)); exact BK101.out) Try.underlying25 rfl (by kernel_rfl)) rfl ?_
     exact ⟨_, _, by first | rfl | (simp [errW_none, errW_some] <;> rfl) | (simp [*, errW_none, errW_some] <;> rfl), by (with_reducible repeat (first | apply yH | apply yI | apply yJ)); exact Kd.S_mono (Kd.S_far (p := ⟨gb101, 3, none⟩) (Kd.S_far (p := ⟨gb101, 2, none⟩) (Kd.S_far (p := ⟨gb101, 1, none⟩) (Kd.S_far (p := ⟨gb101, 0, none⟩) (Kd.S_types HO_107002.out BK101.out (by decide)) (fun _ hk => hk.2) (.int .i64 a0)) (fun _ hk => hk.2) (.int .i64 3)) (fun _ hk => hk.2) (.slice Ao33 x107002_1.length co33)) (fun _ hk => hk.2) (.slice Ao7 y103.length co7)) (fun _ hk => trivial), by (with_reducible repeat (first | apply yB | apply yC | apply yD)); exact zP (zQ (p := ⟨gb101, 3, none⟩) (zQ (p := ⟨gb101, 2, none⟩) (zQ (p := ⟨gb101, 1, none⟩) (zQ (p := ⟨gb101, 0, none⟩) (zR HO_107003.out BK101.out (by decide)) (fun _ hk => hk.2) (.int .i64 a0)) (fun _ hk => hk.2) (.int .i64 3)) (fun _ hk => hk.2) (.slice Ao33 x107002_1.length co33)) (fun _ hk => hk.2) (.slice Ao7 y103.length co7)) (fun _ hk => trivial), by repeat (first | (with_reducible first | exact HB.out | apply yO | apply yN | apply yP | refine yQ ?_ GE101.out | refine yQ ?_ GE106.out) | exact HB.out)⟩
 ·replace c3 := Bool.eq_false_iff.mpr c3
  subst c3
  replace H := iF H
  simp only [Option.some.injEq, Prod.mk.injEq] at H
  obtain ⟨rfl, rfl, rfl, rfl, rfl⟩ := H
  go_enter Try.func15, Try.ntmps15
  go_wp2_with (first | ((with_reducible refine gate_dst (N := 2) rfl ?_); refine box_event ?hg (N := 2) ?hd (cs := #[.int .i64 0, .int .i64 0, .slice none 0 0, .slice none 0 0]) (t := 25) ?hr ?_; (case hd => rfl); (case hg => rfl); (case hr => first | (go_simp; done) | (go_simp; rfl)); intro gb101 hg w34 hbox hb; have BK101 := yA (hbox); have GW101 := yA ((by rw [hg]; exact (yX (mB HB.out)) : w.heap.size ≤ gb101)); have GE101 := yA ((by rw [hg]; exact (yX (mB HB.out)) : w.heap.size ≤ gb101)); replace HB := yA (zD (mB HB.out) hb); clear hb hbox hg) | ((with_reducible refine zS (f := 51) rfl ?_); refine goesL_ (some 14) rfl rfl Try.func51 (by kernel_rfl) rfl #[.int .i64 a0, .int .i64 2, .int .i64 3] rfl (by (try simp only [zI, zJ, zK]); first | done | rfl | (simp only [zL, zM]; rfl)) ?_; (with_reducible refine (spec_l1In.calls a0 2 3 false _ A2.out).mono ?_); rintro e w' ⟨rfl, ⟨nd, rfl⟩⟩; refine ⟨_, rfl, ?_⟩; (try (rw [drewN_self w34]; generalize hq_ : World.drewN w34 _ = w34; have n0_ : Aside0 (w34.heap[gb101]? = some (.cells #[.int .i64 0, .int .i64 0, .slice none 0 0, .slice none 0 0] 25 (0, 0))) := ⟨by rw [← hq_]; exact (mK BK101.out)⟩; have n1_ : Aside0 (Below w.heap.size w w34) := ⟨by rw [← hq_]; exact (by with_reducible repeat first | exact HB.out | apply yO | apply yN | apply yP | refine yQ ?_ GE101.out)⟩; clear BK101 HB hq_; have BK101 := n0_; have HB := n1_; clear n0_ n1_)); have hcz35_0 : w34.cell? ⟨gb101, 0, none⟩ = some (.int .i64 0) := (yV BK101.out 0).trans rfl; have hcz35_1 : w34.cell? ⟨gb101, 1, none⟩ = some (.int .i64 0) := (yV BK101.out 1).trans rfl; have hcz35_2 : w34.cell? ⟨gb101, 2, none⟩ = some (.slice none 0 0) := (yV BK101.out 2).trans rfl; have hcz35_3 : w34.cell? ⟨gb101, 3, none⟩ = some (.slice none 0 0) := (yV BK101.out 3).trans rfl; have hfz35_0 := yW BK101.out 0; have hfz35_1 := yW BK101.out 1; have hfz35_2 := yW BK101.out 2; have hfz35_3 := yW BK101.out 3))
  refine bodyPost_ret (results_ct rfl _ _ gb101 25 #[.int .i64 0, .int .i64 0, .slice none 0 0, .slice none 0 0] (0, 0) _ rfl (by (with_reducible repeat (first | refine yS ?_ _ | refine yT ?_ | refine yR ?_ _)); refine blk_put (cs := #[.int .i64 0, .int .i64 0, .slice none 0 0, .slice none 0 0]) ?_ 3 _ rfl; (with_reducible repeat (first | refine yS ?_ _ | refine yT ?_ | refine yR ?_ _)); refine blk_put (cs := #[.int .i64 0, .int .i64 0, .slice none 0 0, .slice none 0 0]) ?_ 2 _ rfl; (with_reducible repeat (first | refine yS ?_ _ | refine yT ?_ | refine yR ?_ _)); refine blk_put (cs := #[.int .i64 0, .int .i64 0, .slice none 0 0, .slice none 0 0]) ?_ 1 _ rfl; (with_reducible repeat (first | refine yS ?_ _ | refine yT ?_ | refine yR ?_ _)); refine blk_put (cs := #[.int .i64 0, .int .i64 0, .slice none 0 0, .slice none 0 0]) ?_ 0 _ rfl; (with_reducible repeat (first | refine yS ?_ _ | refine yT ?_ | refine yR ?_ _)); exact BK101.out) Try.underlying25 rfl (by kernel_rfl)) rfl ?_
  exact ⟨_, _, by first | rfl | (simp [errW_none, errW_some] <;> rfl) | (simp [*, errW_none, errW_some] <;> rfl), by first | exact Kd.S_nil _ _ _ _ _ | exact Kd.N_nil _ _ _ _ _ | exact Kd.V_nil _ _ _ _ _ | exact Kd.Q_nil _ _ _ _ _ | exact Kd.R_nil _ _ _ _ _, by first | exact Kd.R_nil _ _ _ _ _ | exact Kd.N_nil _ _ _ _ _ | exact Kd.V_nil _ _ _ _ _ | exact Kd.Q_nil _ _ _ _ _ | exact Kd.S_nil _ _ _ _ _, by repeat (first | (with_reducible first | exact HB.out | apply yO | apply yN | apply yP | refine yQ ?_ GE101.out) | exact HB.out)⟩

end Go.Proofs.Ytgopcliohchkmaa.Q
