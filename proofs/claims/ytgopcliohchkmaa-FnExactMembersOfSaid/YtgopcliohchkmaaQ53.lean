-- written by a program of this session
-- squeezed
-- compact
-- shrunk
import Derived.Test.YtgopcliohchkmaaQ0
import Derived.Test.YtgopcliohchkmaaQ20
import Derived.Test.YtgopcliohchkmaaQ21
import Derived.Test.YtgopcliohchkmaaQ31
import Derived.Test.YtgopcliohchkmaaQ49
import Derived.Test.YtgopcliohchkmaaQ52
namespace Go.Proofs.Ytgopcliohchkmaa.Q
open Go.RowKit Go.Proofs.YtgopcliohchkmaaW.PrintWords Go.Proofs.YtgopcliohchkmaaW.PrintLast Go.Proofs.YtgopcliohchkmaaW.PrintMore
attribute [local go_sem] max2_int min2_int max_two min_two max_three min_three max_four min_four
set_option linter.unusedVariables false
set_option linter.unusedSimpArgs false

/-! ### spec_Contains: function 28 -/
mutual
def spec_Contains.j0 : Nat → List Int → Bool → Int → Int → List (List Int) → List Bool → Option (Bool)
 | 0, _, _, _, _, _, _ => none
 | k + 1, x1, x20, x471000, x471001, x471002, x471003 => if x20 = true then (some false) else (spec_Contains.l0 k x1 0 0 x471000 x471001 x471002 x471003)
def spec_Contains.l0 : Nat → List Int → Int → Int → Int → Int → List (List Int) → List Bool → Option (Bool)
 | 0, _, _, _, _, _, _, _ => none
 | k + 1, x1, x5, x6, x471000, x471001, x471002, x471003 => if x6 < (x1.length : Int) then (if 0 ≤ x6 then (if (rd x1 x6) < 0 then (some false) else ((spec_PowerOf.f k x471000 16).bind fun t474 => (if (rd x1 x6) ≥ t474 then (some false) else ((spec_DigitsOf.f k (rd x1 x6) x471000).bind fun t476 => (spec_Contains.l0 k x1 (mx x5 (t476.length : Int)) (wrap64 (x6 + 1)) x471000 x471001 x471002 x471003))))) else (none)) else (spec_Contains.l1 k x1 x5 0 0 x471000 x471001 x471002 x471003)
def spec_Contains.l1 : Nat → List Int → Int → Int → Int → Int → Int → List (List Int) → List Bool → Option (Bool)
 | 0, _, _, _, _, _, _, _, _ => none
 | k + 1, x1, x5, x7, x8, x471000, x471001, x471002, x471003 => if x8 < x5 then (spec_Contains.l2 k x1 x5 x7 x8 (([] : List Int)) 0 x471000 x471001 x471002 x471003) else (if 0 ≤ x7 then (if x7 < (x471003.length : Int) then (some (rdOf false x471003 x7)) else (none)) else (none))
def spec_Contains.l2 : Nat → List Int → Int → Int → Int → List Int → Int → Int → Int → List (List Int) → List Bool → Option (Bool)
 | 0, _, _, _, _, _, _, _, _, _, _ => none
 | k + 1, x1, x5, x7, x8, x9, x10, x471000, x471001, x471002, x471003 => if x10 < (x1.length : Int) then (if 0 ≤ x10 then ((spec_DigitsOf.f k (rd x1 x10) x471000).bind fun t484 => ((spec_PadDigits.f k t484 x5).bind fun t487 => (if 0 ≤ x8 then (if x8 < (t487.length : Int) then (if x9.length < 17592186044416 then (spec_Contains.l2 k x1 x5 x7 x8 (x9 ++ [rd t487 x8]) (wrap64 (x10 + 1)) x471000 x471001 x471002 x471003) else (none)) else (none)) else (none)))) else (none)) else (if 0 ≤ x7 then (if x7 < (x471002.length : Int) then ((spec_LetterOf.f k x471000 x9).bind fun t495 => (if 0 ≤ t495 then (if t495 < ((rd_L1 x471002 x7).length : Int) then (spec_Contains.l1 k x1 x5 (rd (rd_L1 x471002 x7) t495) (wrap64 (x8 + 1)) x471000 x471001 x471002 x471003) else (none)) else (none))) else (none)) else (none))
end
def spec_Contains.f (k : Nat) (a0_0 : Int) (a0_1 : Int) (l0_2 : List (List Int)) (l0_3 : List Bool) (l1 : List Int) : Option (Bool) := (spec_IsRelation.f k a0_0 a0_1 l0_2 l0_3).bind fun t471 => (if t471 = true then (spec_Contains.j0 k l1 ((l1.length : Int) != a0_1) a0_0 a0_1 l0_2 l0_3) else (spec_Contains.j0 k l1 true a0_0 a0_1 l0_2 l0_3))
theorem spec_Contains.mono_l : ∀ k, (∀ y0 y1 y2 y3 y4 y5, LeO (spec_Contains.j0 k y0 y1 y2 y3 y4 y5) (spec_Contains.j0 (k + 1) y0 y1 y2 y3 y4 y5)) ∧ (∀ y0 y1 y2 y3 y4 y5 y6, LeO (spec_Contains.l0 k y0 y1 y2 y3 y4 y5 y6) (spec_Contains.l0 (k + 1) y0 y1 y2 y3 y4 y5 y6)) ∧ (∀ y0 y1 y2 y3 y4 y5 y6 y7, LeO (spec_Contains.l1 k y0 y1 y2 y3 y4 y5 y6 y7) (spec_Contains.l1 (k + 1) y0 y1 y2 y3 y4 y5 y6 y7)) ∧ (∀ y0 y1 y2 y3 y4 y5 y6 y7 y8 y9, LeO (spec_Contains.l2 k y0 y1 y2 y3 y4 y5 y6 y7 y8 y9) (spec_Contains.l2 (k + 1) y0 y1 y2 y3 y4 y5 y6 y7 y8 y9))
 | 0 => ⟨fun _ _ _ _ _ _ r h => by simp [spec_Contains.j0] at h, fun _ _ _ _ _ _ _ r h => by simp [spec_Contains.l0] at h, fun _ _ _ _ _ _ _ _ r h => by simp [spec_Contains.l1] at h, fun _ _ _ _ _ _ _ _ _ _ r h => by simp [spec_Contains.l2] at h⟩
 | k + 1 => by
  obtain ⟨ih0, ih1, ih2, ih3⟩ := spec_Contains.mono_l k
  refine ⟨?_, ?_, ?_, ?_⟩ <;> intros <;> first | unfold spec_Contains.j0 | unfold spec_Contains.l0 | unfold spec_Contains.l1 | unfold spec_Contains.l2
  all_goals repeat' (with_reducible first | exact ih0 _ _ _ _ _ _ | exact ih1 _ _ _ _ _ _ _ | exact ih2 _ _ _ _ _ _ _ _ | exact ih3 _ _ _ _ _ _ _ _ _ _ | exact spec_DigitsOf.mono _ _ _ | exact spec_IsRelation.mono _ _ _ _ _ | exact spec_LetterOf.mono _ _ _ | exact spec_PadDigits.mono _ _ _ | exact spec_PowerOf.mono _ _ _ | exact LeO.refl _ | exact LeO.none _ | refine LeO.ite ?_ ?_ | refine LeO.bind ?_ fun _ => ?_)
theorem spec_Contains.mono : ∀ a0 a1 a2 a3 a4 k, LeO (spec_Contains.f k a0 a1 a2 a3 a4) (spec_Contains.f (k + 1) a0 a1 a2 a3 a4) := by
 intro a0 a1 a2 a3 a4 k
 obtain ⟨ih0, ih1, ih2, ih3⟩ := spec_Contains.mono_l k
 unfold spec_Contains.f
 repeat' (with_reducible first | exact ih0 _ _ _ _ _ _ | exact ih1 _ _ _ _ _ _ _ | exact ih2 _ _ _ _ _ _ _ _ | exact ih3 _ _ _ _ _ _ _ _ _ _ | exact spec_DigitsOf.mono _ _ _ | exact spec_IsRelation.mono _ _ _ _ _ | exact spec_LetterOf.mono _ _ _ | exact spec_PadDigits.mono _ _ _ | exact spec_PowerOf.mono _ _ _ | exact LeO.refl _ | exact LeO.none _ | refine LeO.ite ?_ ?_ | refine LeO.bind ?_ fun _ => ?_)
def spec_Contains.T7 : Bool × List (List Nat × List Nat) := (true, [([], []), ([], []), ([0, 1], [0, 1]), ([2], [2]), ([3], [3]), ([4], [4]), ([5], [5]), ([5], [5]), ([6, 7, 5], [5, 6, 7]), ([8, 5], [5, 8]), ([5], [5]), ([10, 5], [5, 10]), ([11, 5, 5], [5, 11]), ([9, 12, 5], [5, 9, 12]), ([5, 13], [5, 13])])
def spec_Contains.B7 : List Nat := [0, 0, 3, 7, 15, 31, 63, 63, 255, 511, 63, 1087, 3135, 8191, 16383]
theorem spec_Contains.tab7 : rtab .any (opsOf Try.f28 7) = spec_Contains.T7 := by kernel_rfl
theorem spec_Contains.bits7 : waitsOk spec_Contains.T7.2 spec_Contains.B7 = true := by kernel_rfl
def spec_Contains.T9 : Bool × List (List Nat × List Nat) := (true, [([], []), ([], []), ([], []), ([1, 2], [1, 2]), ([3], [3]), ([], []), ([5], [5]), ([4, 6], [4, 6]), ([7], [7]), ([0, 8], [0, 8]), ([9, 7, 0, 1, 2, 3, 4, 5, 6, 7, 8, 9], [0, 9])])
def spec_Contains.B9 : List Nat := [0, 0, 0, 6, 14, 0, 32, 126, 254, 511, 1023]
theorem spec_Contains.tab9 : rtab .any (opsOf Try.f28 9) = spec_Contains.T9 := by kernel_rfl
theorem spec_Contains.bits9 : waitsOk spec_Contains.T9.2 spec_Contains.B9 = true := by kernel_rfl
def spec_Contains.T18 : Bool × List (List Nat × List Nat) := (true, [([], []), ([], []), ([], []), ([1, 2], [1, 2]), ([3], [3]), ([], []), ([5], [5]), ([4, 6], [4, 6]), ([], []), ([7, 8, 7], [7, 8]), ([], []), ([9, 10], [9, 10]), ([11], [11]), ([12], [12]), ([0, 13, 9], [0, 13]), ([14, 14, 0, 1, 2, 3, 4, 5, 6, 7, 8, 9, 10, 11, 12, 13, 14], [0, 14])])
def spec_Contains.B18 : List Nat := [0, 0, 0, 6, 14, 0, 32, 126, 0, 510, 0, 2046, 4094, 8190, 16383, 32767]
theorem spec_Contains.tab18 : rtab .any (opsOf Try.f28 18) = spec_Contains.T18 := by kernel_rfl
theorem spec_Contains.bits18 : waitsOk spec_Contains.T18.2 spec_Contains.B18 = true := by kernel_rfl
def spec_Contains.T19 : Bool × List (List Nat × List Nat) := (true, [([], []), ([0], [0]), ([], []), ([1, 2], [1, 2]), ([3], [3]), ([], []), ([5], [5]), ([], []), ([6, 7], [6, 7]), ([4, 8], [4, 8]), ([9], [9]), ([10, 8, 0, 1, 2, 3, 4, 5, 6, 7, 8, 9, 10], [2, 10])])
def spec_Contains.B19 : List Nat := [0, 1, 0, 7, 15, 0, 32, 0, 224, 511, 1023, 2047]
theorem spec_Contains.tab19 : rtab .any (opsOf Try.f28 19) = spec_Contains.T19 := by kernel_rfl
theorem spec_Contains.bits19 : waitsOk spec_Contains.T19.2 spec_Contains.B19 = true := by kernel_rfl
set_option maxHeartbeats 8000000 in
set_option maxRecDepth 100000 in
theorem spec_Contains.calls (k : Nat) (a0_0 : Int) (a0_1 : Int) (A0_2 : Option Addr) (c0_2 : Nat) (l0_2 : List (List Int)) (A0_3 : Option Addr) (c0_3 : Nat) (l0_3 : List Bool) (A1 : Option Addr) (c1 : Nat) (l1 : List Int) (r : Bool) (w : World) (hr0_2 : Kd.C (Kd.slice 3 (Kd.int .i64)) w A0_2 l0_2.length l0_2) (hc0_2 : l0_2.length ≤ c0_2) (hr0_3 : Kd.C Kd.bool w A0_3 l0_3.length l0_3) (hc0_3 : l0_3.length ≤ c0_3) (hr1 : Kd.C (Kd.int .i64) w A1 l1.length l1) (hc1 : l1.length ≤ c1) (h : spec_Contains.f k a0_0 a0_1 l0_2 l0_3 l1 = some r) :
  Calls Try.prog 28 #[.agg #[.int .i64 a0_0, .int .i64 a0_1, .slice A0_2 l0_2.length c0_2, .slice A0_3 l0_3.length c0_3], .slice A1 l1.length c1] w fun e w' => e = .returned (.bool r) ∧ Below w.heap.size w w' := by
 have hu25 := Try.underlying25
 have HR0_2 := yA hr0_2
 have HC0_2 := yA hc0_2
 clear hr0_2 hc0_2
 have HR0_3 := yA hr0_3
 have HC0_3 := yA hc0_3
 clear hr0_3 hc0_3
 have HR1 := yA hr1
 have HC1 := yA hc1
 clear hr1 hc1
 have HB := yA (zV w.heap.size w)
 have H : ((spec_IsRelation.f k a0_0 a0_1 l0_2 l0_3).bind fun t471 => (if t471 = true then (spec_Contains.j0 k l1 ((l1.length : Int) != a0_1) a0_0 a0_1 l0_2 l0_3) else (spec_Contains.j0 k l1 true a0_0 a0_1 l0_2 l0_3))) = some r := h
 clear h
 have HC3 := yA H
 clear H
 go_enter Try.func28, Try.ntmps28
 go_upto_region 1 with (first | ((with_reducible refine gate_dst (N := 2) rfl ?_); refine box_event ?hg (N := 2) ?hd (cs := #[.int .i64 a0_0, .int .i64 a0_1, .slice A0_2 l0_2.length c0_2, .slice A0_3 l0_3.length c0_3]) (t := 25) ?hr ?_; (case hd => rfl); (case hg => rfl); (case hr => first | (go_simp; done) | (go_simp; rfl)); intro gb470 hg w4 hbox hb; have BK470 := yA (hbox); have GW470 := yA ((by rw [hg]; exact (yX (mB HB.out)) : w.heap.size ≤ gb470)); have GE470 := yA ((by rw [hg]; exact (yX (mB HB.out)) : w.heap.size ≤ gb470)); replace HB := yA (zD (mB HB.out) hb); clear hb hbox hg))
 (try simp only [Act.put, zA, zB, zC])
 go_cut [20] (fun v20 wc => ∃ (kq : Nat) (x20_2 : Bool), v20 = .bool x20_2 ∧ Aside0 (spec_Contains.j0 kq l1 x20_2 a0_0 a0_1 l0_2 l0_3 = some r) ∧ Aside0 (kq ≤ k) ∧ Aside0 (wc.heap[gb470]? = some (.cells #[.int .i64 a0_0, .int .i64 a0_1, (.slice A0_2 l0_2.length c0_2), (.slice A0_3 l0_3.length c0_3)] 25 (0, 0))) ∧ Aside0 (Below w.heap.size w wc))
 case first =>
  have H := HC3.out
  clear HC3
  obtain ⟨t471, A5, H⟩ := bE H
  by_cases c6 : t471 = true
  ·subst c6
   replace H := iT H
   have H' := yA H
   clear H
   obtain ⟨hcz7_0, hcz7_1, hcz7_2, hcz7_3⟩ := cz4 BK470.out
   obtain ⟨hfz7_0, hfz7_1, hfz7_2, hfz7_3⟩ := fz4 BK470.out
   go_wp2_with (first | ((with_reducible refine zS (f := 67) rfl ?_); refine goesL_ (some 12) rfl rfl Try.func67 (by kernel_rfl) rfl #[.agg #[.int .i64 a0_0, .int .i64 a0_1, .slice A0_2 l0_2.length c0_2, .slice A0_3 l0_3.length c0_3]] rfl (by (try simp only [zI, zJ, zK]); first | done | rfl | (simp only [zL, zM]; rfl)) ?_; (with_reducible refine (spec_IsRelation.calls k a0_0 a0_1 _ _ l0_2 _ _ l0_3 true _ ?side1 ?side2 ?side3 ?side4 A5.out).mono ?_); (case side1 => exact mC (yM HR0_2.out HB.out)); (case side2 => exact HC0_2.out); (case side3 => exact mC (yM HR0_3.out HB.out)); (case side4 => exact HC0_3.out); rintro e w8 ⟨rfl, hb⟩; refine ⟨_, rfl, ?_⟩; replace BK470 := yA (yU (mK BK470.out) hb); replace HB := yA (zD (by with_reducible repeat first | exact HB.out | apply yO | apply yN | apply yP | refine yQ ?_ GE470.out) hb); (try clear hb); (try clear hb2); (try clear hk); (try clear hi); have hcz9_0 : w8.cell? ⟨gb470, 0, none⟩ = some (.int .i64 a0_0) := (yV BK470.out 0).trans rfl; have hcz9_1 : w8.cell? ⟨gb470, 1, none⟩ = some (.int .i64 a0_1) := (yV BK470.out 1).trans rfl; have hcz9_2 : w8.cell? ⟨gb470, 2, none⟩ = some (.slice A0_2 l0_2.length c0_2) := (yV BK470.out 2).trans rfl; have hcz9_3 : w8.cell? ⟨gb470, 3, none⟩ = some (.slice A0_3 l0_3.length c0_3) := (yV BK470.out 3).trans rfl; have hfz9_0 := yW BK470.out 0; have hfz9_1 := yW BK470.out 1; have hfz9_2 := yW BK470.out 2; have hfz9_3 := yW BK470.out 3))
   go_meet
   case rel => exact ⟨_, (((l1.length : Int) != a0_1)), (by first | rfl | (simp; done) | (simp [*]; done)), H', ⟨by first | omega | exact zT _⟩, ⟨mK BK470.out⟩, ⟨by repeat (first | (with_reducible first | exact HB.out | apply yO | apply yN | apply yP | refine yQ ?_ GE470.out) | exact HB.out)⟩⟩
  ·replace c6 := Bool.eq_false_iff.mpr c6
   subst c6
   replace H := iF H
   have H' := yA H
   clear H
   obtain ⟨hcz10_0, hcz10_1, hcz10_2, hcz10_3⟩ := cz4 BK470.out
   obtain ⟨hfz10_0, hfz10_1, hfz10_2, hfz10_3⟩ := fz4 BK470.out
   go_wp2_with (first | ((with_reducible refine zS (f := 67) rfl ?_); refine goesL_ (some 12) rfl rfl Try.func67 (by kernel_rfl) rfl #[.agg #[.int .i64 a0_0, .int .i64 a0_1, .slice A0_2 l0_2.length c0_2, .slice A0_3 l0_3.length c0_3]] rfl (by (try simp only [zI, zJ, zK]); first | done | rfl | (simp only [zL, zM]; rfl)) ?_; (with_reducible refine (spec_IsRelation.calls k a0_0 a0_1 _ _ l0_2 _ _ l0_3 false _ ?side1 ?side2 ?side3 ?side4 A5.out).mono ?_); (case side1 => exact mC (yM HR0_2.out HB.out)); (case side2 => exact HC0_2.out); (case side3 => exact mC (yM HR0_3.out HB.out)); (case side4 => exact HC0_3.out); rintro e w11 ⟨rfl, hb⟩; refine ⟨_, rfl, ?_⟩; replace BK470 := yA (yU (mK BK470.out) hb); replace HB := yA (zD (by with_reducible repeat first | exact HB.out | apply yO | apply yN | apply yP | refine yQ ?_ GE470.out) hb); (try clear hb); (try clear hb2); (try clear hk); (try clear hi)))
   go_meet
   case rel => exact ⟨_, (true), (by first | rfl | (simp; done) | (simp [*]; done)), H', ⟨by first | omega | exact zT _⟩, ⟨mK BK470.out⟩, ⟨by repeat (first | (with_reducible first | exact HB.out | apply yO | apply yN | apply yP | refine yQ ?_ GE470.out) | exact HB.out)⟩⟩
 case rest =>
  clear HC3
  (try clear c1);(try clear c2);(try clear p2);(try clear c6);(try clear hcz10_0);(try clear hcz10_1);(try clear hcz10_2);(try clear hcz10_3);(try clear hcz7_0);(try clear hcz7_1);(try clear hcz7_2);(try clear hcz7_3);(try clear hcz9_0);(try clear hcz9_1);(try clear hcz9_2);(try clear hcz9_3);(try clear hfz10_0);(try clear hfz10_1);(try clear hfz10_2);(try clear hfz10_3);(try clear hfz7_0);(try clear hfz7_1);(try clear hfz7_2);(try clear hfz7_3);(try clear hfz9_0);(try clear hfz9_1);(try clear hfz9_2);(try clear hfz9_3)
  obtain ⟨kq, x20_2, rfl, HA, HJ2, BK470, HB⟩ := hcut
  cases kq with
  | zero => exact absurd HA.out (by simp [spec_Contains.j0])
  | succ kj2 =>
   have H := HA.out
   clear HA
   simp only [spec_Contains.j0] at H
   by_cases c12 : x20_2 = true
   ·subst c12
    replace H := iT H
    obtain rfl := zU H
    go_wp2
    go_ret
    exact ⟨by first | rfl | (simp [errW_none, errW_some] <;> rfl) | (simp [*, errW_none, errW_some] <;> rfl), by repeat (first | (with_reducible first | exact HB.out | apply yO | apply yN | apply yP | refine yQ ?_ GE470.out) | exact HB.out)⟩
   ·replace c12 := Bool.eq_false_iff.mpr c12
    subst c12
    replace H := iF H
    have H' := yA H
    clear H
    go_wp2
    go_loopg [5, 6] kj2 (fun kq v5 v6 w' => ∃ (x5_2 : Int) (x6_2 : Int), v5 = .int .i64 x5_2 ∧ v6 = .int .i64 x6_2 ∧ Aside0 (spec_Contains.l0 kq l1 x5_2 x6_2 a0_0 a0_1 l0_2 l0_3 = some r) ∧ Aside0 (kq ≤ kj2) ∧ Aside0 (w'.heap[gb470]? = some (.cells #[.int .i64 a0_0, .int .i64 a0_1, (.slice A0_2 l0_2.length c0_2), (.slice A0_3 l0_3.length c0_3)] 25 (0, 0))) ∧ Aside0 (Below w.heap.size w w'))
    case atStart => exact ⟨(0), (0), (by first | rfl | (simp; done) | (simp [*]; done)), (by first | rfl | (simp; done) | (simp [*]; done)), H', ⟨zT _⟩, ⟨mK BK470.out⟩, ⟨by repeat (first | (with_reducible first | exact HB.out | apply yO | apply yN | apply yP | refine yQ ?_ GE470.out) | exact HB.out)⟩⟩
    case round =>
     clear H'
     (try clear c1);(try clear c2);(try clear p2);(try clear c6);(try clear c12);(try clear hcz10_0);(try clear hcz10_1);(try clear hcz10_2);(try clear hcz10_3);(try clear hcz7_0);(try clear hcz7_1);(try clear hcz7_2);(try clear hcz7_3);(try clear hcz9_0);(try clear hcz9_1);(try clear hcz9_2);(try clear hcz9_3);(try clear hfz10_0);(try clear hfz10_1);(try clear hfz10_2);(try clear hfz10_3);(try clear hfz7_0);(try clear hfz7_1);(try clear hfz7_2);(try clear hfz7_3);(try clear hfz9_0);(try clear hfz9_1);(try clear hfz9_2);(try clear hfz9_3);(try clear p2)
     obtain ⟨x5_2, x6_2, rfl, rfl, HA, HK2, BK470, HB⟩ := hrel
     cases gk with
     | zero => exact absurd HA.out (by simp [spec_Contains.l0])
     | succ k2 =>
      have H := HA.out
      clear HA
      simp only [spec_Contains.l0] at H
      by_cases c13 : x6_2 < (l1.length : Int)
      ·rw [if_pos c13] at H
       have c13b0 : decide (x6_2 < (l1.length : Int)) = true := zH c13
       clear c13
       obtain ⟨c14, H⟩ := iP H
       have c14b0 : decide (0 ≤ x6_2) = true := zH c14
       clear c14
       by_cases c15 : (rd l1 x6_2) < 0
       ·rw [if_pos c15] at H
        have c15b0 : decide ((rd l1 x6_2) < 0) = true := zH c15
        clear c15
        obtain rfl := zU H
        try go_wp2
        replace BK470 := yA (yT BK470.out)
        replace HB := yA (yP HB.out)
        have p472 : 0 ≤ (x6_2 : Int) := zG (by assumption)
        have q472 : x6_2 < (l1.length : Int) := zG (by assumption)
        obtain ⟨ad472, e472, hx472_0⟩ := Kd.at_int HR1.out x6_2 p472 q472
        have hw472_0 := hx472_0
        cases e472
        try replace hx472_0 := (HB.out.cell (zE w _ hx472_0)).trans hx472_0
        replace p472 := eq_true p472
        replace q472 := eq_true q472
        refine start_ (n := 15) (S := fun w' => w'.cell? (ad472.add (x6_2).toNat) = some (.int .i64 (rd l1 x6_2))) (ds := []) #[false, false, false, false, false, false, false, false, false, false, false, false, false, false, false] (by kernel_rfl) rfl rfl (((HB.out.cell (zE w _ hw472_0)).trans hw472_0)) (fun hHeld => ?_); refine with_tabW spec_Contains.tab7 spec_Contains.bits7 (fun HT_ HW_ => ?_)
        generalize wr.drew = w16 at BK470 HB hx472_0 hHeld ⊢
        refine pure_ (i := 0) (N := some 27) (v := ?_) (a' := ?_) #[true, false, false, false, false, false, false, false, false, false, false, false, false, false, false] rfl rfl (any_of HT_.out (by kernel_rfl)) (fun _ _ _ h => h) (Or.inl ⟨by rfl, ?_⟩) ?_ ?_
        rotate_left
        ·intro w'
         go_simp
         with_reducible rfl
        rotate_left
        ·simp only [Act.put, zA, zB, zC, i64_w, i32_w]
         rfl
        refine pure_ (i := 1) (N := some 28) (v := ?_) (a' := ?_) #[true, true, false, false, false, false, false, false, false, false, false, false, false, false, false] rfl rfl (any_of HT_.out (by kernel_rfl)) (fun _ _ _ h => h) (Or.inl ⟨by rfl, ?_⟩) ?_ ?_
        rotate_left
        ·intro w'
         go_simp
         with_reducible rfl
        rotate_left
        ·simp only [Act.put, zA, zB, zC, i64_w, i32_w]
         rfl
        refine pure_ (i := 2) (N := some 29) (v := ?_) (a' := ?_) #[true, true, true, false, false, false, false, false, false, false, false, false, false, false, false] rfl rfl (any_of HT_.out (by kernel_rfl)) (fun _ _ _ h => h) (Or.inl ⟨by rfl, ?_⟩) ?_ ?_
        rotate_left
        ·intro w'
         go_simp
         with_reducible rfl
        rotate_left
        ·simp only [Act.put, zA, zB, zC, i64_w, i32_w]
         rfl
        refine take_ (i := 3) (N := some 30) (v := ?_) (a' := ?_) #[true, true, true, true, false, false, false, false, false, false, false, false, false, false, false] rfl rfl (take_ofW HT_.out HW_.out (by kernel_rfl)) (fun _ _ _ h => h) (Or.inl ⟨by rfl, ?_⟩) hHeld ?_ ?_
        rotate_left
        ·intro w' s0
         go_simp
         with_reducible rfl
        rotate_left
        ·simp only [Act.put, zA, zB, zC, i64_w, i32_w]
         rfl
        refine pure_ (i := 4) (N := some 31) (v := ?_) (a' := ?_) #[true, true, true, true, true, false, false, false, false, false, false, false, false, false, false] rfl rfl (any_of HT_.out (by kernel_rfl)) (fun _ _ _ h => h) (Or.inl ⟨by rfl, ?_⟩) ?_ ?_
        rotate_left
        ·intro w'
         go_simp
         with_reducible rfl
        rotate_left
        ·simp only [Act.put, zA, zB, zC, i64_w, i32_w]
         rfl
        refine pure_ (i := 5) (N := some 32) (v := ?_) (a' := ?_) #[true, true, true, true, true, true, false, false, false, false, false, false, false, false, false] rfl rfl (any_of HT_.out (by kernel_rfl)) (fun _ _ _ h => h) (Or.inl ⟨by rfl, ?_⟩) ?_ ?_
        rotate_left
        ·intro w'
         go_simp
         with_reducible rfl
        rotate_left
        ·simp only [Act.put, zA, zB, zC, i64_w, i32_w]
         rfl
        refine pure_ (i := 6) (N := some 33) (v := undef) (a' := ?_) #[true, true, true, true, true, true, true, false, false, false, false, false, false, false, false] rfl rfl (any_of HT_.out (by kernel_rfl)) (fun _ _ _ h => h) (Or.inr ⟨by rfl, rfl⟩) ?_ ?_
        rotate_left
        ·simp only [Act.put, zA, zB, zC, i64_w, i32_w]
         rfl
        refine pure_ (i := 7) (N := some 34) (v := undef) (a' := ?_) #[true, true, true, true, true, true, true, true, false, false, false, false, false, false, false] rfl rfl (any_of HT_.out (by kernel_rfl)) (fun _ _ _ h => h) (Or.inr ⟨by rfl, rfl⟩) ?_ ?_
        rotate_left
        ·simp only [Act.put, zA, zB, zC, i64_w, i32_w]
         rfl
        refine pure_ (i := 8) (N := some 35) (v := undef) (a' := ?_) #[true, true, true, true, true, true, true, true, true, false, false, false, false, false, false] rfl rfl (any_of HT_.out (by kernel_rfl)) (fun _ _ _ h => h) (Or.inr ⟨by rfl, rfl⟩) ?_ ?_
        rotate_left
        ·simp only [Act.put, zA, zB, zC, i64_w, i32_w]
         rfl
        refine pure_ (i := 9) (N := some 36) (v := undef) (a' := ?_) #[true, true, true, true, true, true, true, true, true, true, false, false, false, false, false] rfl rfl (any_of HT_.out (by kernel_rfl)) (fun _ _ _ h => h) (Or.inr ⟨by rfl, rfl⟩) ?_ ?_
        rotate_left
        ·simp only [Act.put, zA, zB, zC, i64_w, i32_w]
         rfl
        refine pure_ (i := 10) (N := some 37) (v := undef) (a' := ?_) #[true, true, true, true, true, true, true, true, true, true, true, false, false, false, false] rfl rfl (any_of HT_.out (by kernel_rfl)) (fun _ _ _ h => h) (Or.inr ⟨by rfl, rfl⟩) ?_ ?_
        rotate_left
        ·simp only [Act.put, zA, zB, zC, i64_w, i32_w]
         rfl
        refine pure_ (i := 11) (N := some 38) (v := undef) (a' := ?_) #[true, true, true, true, true, true, true, true, true, true, true, true, false, false, false] rfl rfl (any_of HT_.out (by kernel_rfl)) (fun _ _ _ h => h) (Or.inr ⟨by rfl, rfl⟩) ?_ ?_
        rotate_left
        ·simp only [Act.put, zA, zB, zC, i64_w, i32_w]
         rfl
        refine pure_ (i := 12) (N := some 39) (v := undef) (a' := ?_) #[true, true, true, true, true, true, true, true, true, true, true, true, true, false, false] rfl rfl (any_of HT_.out (by kernel_rfl)) (fun _ _ _ h => h) (Or.inr ⟨by rfl, rfl⟩) ?_ ?_
        rotate_left
        ·simp only [Act.put, zA, zB, zC, i64_w, i32_w]
         rfl
        refine pure_ (i := 13) (N := some 40) (v := undef) (a' := ?_) #[true, true, true, true, true, true, true, true, true, true, true, true, true, true, false] rfl rfl (any_of HT_.out (by kernel_rfl)) (fun _ _ _ h => h) (Or.inr ⟨by rfl, rfl⟩) ?_ ?_
        rotate_left
        ·simp only [Act.put, zA, zB, zC, i64_w, i32_w]
         rfl
        refine pure_ (i := 14) (N := some 41) (v := ?_) (a' := ?_) #[true, true, true, true, true, true, true, true, true, true, true, true, true, true, true] rfl rfl (any_of HT_.out (by kernel_rfl)) (fun _ _ _ h => h) (Or.inl ⟨by rfl, ?_⟩) ?_ ?_
        rotate_left
        ·intro w'
         go_simp
         with_reducible rfl
        rotate_left
        ·simp only [Act.put, zA, zB, zC, i64_w, i32_w]
         rfl
        refine done_ (done_of HT_.out (by kernel_rfl)) ?_
        try go_wp2
        go_ret
        exact ⟨by first | rfl | (simp [errW_none, errW_some] <;> rfl) | (simp [*, errW_none, errW_some] <;> rfl), by repeat (first | (with_reducible first | exact HB.out | apply yO | apply yN | apply yP | refine yQ ?_ GE470.out) | exact HB.out)⟩
       ·rw [if_neg c15] at H
        have c15b0 : decide ((rd l1 x6_2) < 0) = false := decide_eq_false c15
        clear c15
        obtain ⟨t474, A17, H⟩ := bE H
        by_cases c18 : (rd l1 x6_2) ≥ t474
        ·rw [if_pos c18] at H
         have c18b0 : decide (t474 ≤ (rd l1 x6_2)) = true := zH c18
         clear c18
         obtain rfl := zU H
         try go_wp2
         replace BK470 := yA (yT BK470.out)
         replace HB := yA (yP HB.out)
         have p472 : 0 ≤ (x6_2 : Int) := zG (by assumption)
         have q472 : x6_2 < (l1.length : Int) := zG (by assumption)
         obtain ⟨ad472, e472, hx472_0⟩ := Kd.at_int HR1.out x6_2 p472 q472
         have hw472_0 := hx472_0
         cases e472
         try replace hx472_0 := (HB.out.cell (zE w _ hx472_0)).trans hx472_0
         replace p472 := eq_true p472
         replace q472 := eq_true q472
         have p473 : 0 ≤ (x6_2 : Int) := zG (by assumption)
         have q473 : x6_2 < (l1.length : Int) := zG (by assumption)
         obtain ⟨ad473, e473, hx473_0⟩ := Kd.at_int HR1.out x6_2 p473 q473
         have hw473_0 := hx473_0
         obtain rfl : ad472 = ad473 := (by injection e473)
         try replace hx473_0 := (HB.out.cell (zE w _ hx473_0)).trans hx473_0
         replace p473 := eq_true p473
         replace q473 := eq_true q473
         refine start_ (n := 15) (S := fun w' => w'.cell? ⟨gb470, 0, none⟩ = some (.int .i64 a0_0) ∧ w'.cell? ⟨gb470, 1, none⟩ = some (.int .i64 a0_1) ∧ w'.cell? ⟨gb470, 2, none⟩ = some (.slice A0_2 l0_2.length c0_2) ∧ w'.cell? ⟨gb470, 3, none⟩ = some (.slice A0_3 l0_3.length c0_3) ∧ w'.cell? (ad472.add (x6_2).toNat) = some (.int .i64 (rd l1 x6_2)) ∧ w'.cell? (ad472.add (x6_2).toNat) = some (.int .i64 (rd l1 x6_2))) (ds := []) #[false, false, false, false, false, false, false, false, false, false, false, false, false, false, false] (by kernel_rfl) rfl rfl ⟨(yV BK470.out 0).trans rfl, (yV BK470.out 1).trans rfl, (yV BK470.out 2).trans rfl, (yV BK470.out 3).trans rfl, ((HB.out.cell (zE w _ hw472_0)).trans hw472_0), ((HB.out.cell (zE w _ hw473_0)).trans hw473_0)⟩ (fun hHeld => ?_); refine with_tabW spec_Contains.tab7 spec_Contains.bits7 (fun HT_ HW_ => ?_)
         generalize wr.drew = w19 at BK470 HB hx472_0 hx473_0 hHeld ⊢
         refine pure_ (i := 0) (N := some 27) (v := ?_) (a' := ?_) #[true, false, false, false, false, false, false, false, false, false, false, false, false, false, false] rfl rfl (any_of HT_.out (by kernel_rfl)) (fun _ _ _ h => h) (Or.inl ⟨by rfl, ?_⟩) ?_ ?_
         rotate_left
         ·intro w'
          go_simp
          with_reducible rfl
         rotate_left
         ·simp only [Act.put, zA, zB, zC, i64_w, i32_w]
          rfl
         refine pure_ (i := 1) (N := some 28) (v := ?_) (a' := ?_) #[true, true, false, false, false, false, false, false, false, false, false, false, false, false, false] rfl rfl (any_of HT_.out (by kernel_rfl)) (fun _ _ _ h => h) (Or.inl ⟨by rfl, ?_⟩) ?_ ?_
         rotate_left
         ·intro w'
          go_simp
          with_reducible rfl
         rotate_left
         ·simp only [Act.put, zA, zB, zC, i64_w, i32_w]
          rfl
         refine pure_ (i := 2) (N := some 29) (v := ?_) (a' := ?_) #[true, true, true, false, false, false, false, false, false, false, false, false, false, false, false] rfl rfl (any_of HT_.out (by kernel_rfl)) (fun _ _ _ h => h) (Or.inl ⟨by rfl, ?_⟩) ?_ ?_
         rotate_left
         ·intro w'
          go_simp
          with_reducible rfl
         rotate_left
         ·simp only [Act.put, zA, zB, zC, i64_w, i32_w]
          rfl
         refine take_ (i := 3) (N := some 30) (v := ?_) (a' := ?_) #[true, true, true, true, false, false, false, false, false, false, false, false, false, false, false] rfl rfl (take_ofW HT_.out HW_.out (by kernel_rfl)) (fun _ _ _ h => h) (Or.inl ⟨by rfl, ?_⟩) hHeld ?_ ?_
         rotate_left
         ·rintro w' ⟨s0, s1, s2, s3, s4, s5⟩
          go_simp
          with_reducible rfl
         rotate_left
         ·simp only [Act.put, zA, zB, zC, i64_w, i32_w]
          rfl
         refine pure_ (i := 4) (N := some 31) (v := ?_) (a' := ?_) #[true, true, true, true, true, false, false, false, false, false, false, false, false, false, false] rfl rfl (any_of HT_.out (by kernel_rfl)) (fun _ _ _ h => h) (Or.inl ⟨by rfl, ?_⟩) ?_ ?_
         rotate_left
         ·intro w'
          go_simp
          with_reducible rfl
         rotate_left
         ·simp only [Act.put, zA, zB, zC, i64_w, i32_w]
          rfl
         refine pure_ (i := 5) (N := some 32) (v := ?_) (a' := ?_) #[true, true, true, true, true, true, false, false, false, false, false, false, false, false, false] rfl rfl (any_of HT_.out (by kernel_rfl)) (fun _ _ _ h => h) (Or.inl ⟨by rfl, ?_⟩) ?_ ?_
         rotate_left
         ·intro w'
          go_simp
          with_reducible rfl
         rotate_left
         ·simp only [Act.put, zA, zB, zC, i64_w, i32_w]
          rfl
         refine pure_ (i := 6) (N := some 33) (v := ?_) (a' := ?_) #[true, true, true, true, true, true, true, false, false, false, false, false, false, false, false] rfl rfl (any_of HT_.out (by kernel_rfl)) (fun _ _ _ h => h) (Or.inl ⟨by rfl, ?_⟩) ?_ ?_
         rotate_left
         ·intro w'
          go_simp
          with_reducible rfl
         rotate_left
         ·simp only [Act.put, zA, zB, zC, i64_w, i32_w]
          rfl
         refine pure_ (i := 7) (N := some 34) (v := ?_) (a' := ?_) #[true, true, true, true, true, true, true, true, false, false, false, false, false, false, false] rfl rfl (any_of HT_.out (by kernel_rfl)) (fun _ _ _ h => h) (Or.inl ⟨by rfl, ?_⟩) ?_ ?_
         rotate_left
         ·intro w'
          go_simp
          with_reducible rfl
         rotate_left
         ·simp only [Act.put, zA, zB, zC, i64_w, i32_w]
          rfl
         refine pure_ (i := 8) (N := some 35) (v := ?_) (a' := ?_) #[true, true, true, true, true, true, true, true, true, false, false, false, false, false, false] rfl rfl (any_of HT_.out (by kernel_rfl)) (fun _ _ _ h => h) (Or.inl ⟨by rfl, ?_⟩) ?_ ?_
         rotate_left
         ·intro w'
          go_simp
          with_reducible rfl
         rotate_left
         ·simp only [Act.put, zA, zB, zC, i64_w, i32_w]
          rfl
         refine pure_ (i := 10) (N := some 37) (v := ?_) (a' := ?_) #[true, true, true, true, true, true, true, true, true, false, true, false, false, false, false] rfl rfl (any_of HT_.out (by kernel_rfl)) (fun _ _ _ h => h) (Or.inl ⟨by rfl, ?_⟩) ?_ ?_
         rotate_left
         ·intro w'
          go_simp
          with_reducible rfl
         rotate_left
         ·simp only [Act.put, zA, zB, zC, i64_w, i32_w]
          rfl
         refine take_ (i := 9) (N := some 36) (v := ?_) (a' := ?_) #[true, true, true, true, true, true, true, true, true, true, true, false, false, false, false] rfl rfl (take_ofW HT_.out HW_.out (by kernel_rfl)) (fun _ _ _ h => h) (Or.inl ⟨by rfl, ?_⟩) hHeld ?_ ?_
         rotate_left
         ·rintro w' ⟨s0, s1, s2, s3, s4, s5⟩
          go_simp
          with_reducible rfl
         rotate_left
         ·simp only [Act.put, zA, zB, zC, i64_w, i32_w]
          rfl
         refine take_ (i := 11) (N := some 38) (v := ?_) (a' := ?_) #[true, true, true, true, true, true, true, true, true, true, true, true, false, false, false] rfl rfl (take_ofW HT_.out HW_.out (by kernel_rfl)) (fun _ _ _ h => h) (Or.inl ⟨by rfl, ?_⟩) hHeld ?_ ?_
         rotate_left
         ·rintro w' ⟨s0, s1, s2, s3, s4, s5⟩
          go_simp
          with_reducible rfl
         rotate_left
         ·simp only [Act.put, zA, zB, zC, i64_w, i32_w]
          rfl
         refine one_ (i := 12) (N := some 39) #[true, true, true, true, true, true, true, true, true, true, true, true, true, false, false] rfl rfl (one_of HT_.out (by kernel_rfl)) (by decide) (fun K hK => ?_)
         refine goes_ Try.func68 (by kernel_rfl) rfl #[.int .i64 a0_0, .int .i64 16] (by rfl) rfl rfl (by (try simp only [zI, zJ, zK]); first | done | rfl | (simp only [zL, zM]; rfl)) ?_
         with_reducible refine (spec_PowerOf.calls k2 a0_0 16 t474 _ A17.out).mono ?_
         rintro e w' ⟨rfl, ⟨nd, rfl⟩⟩
         refine ⟨_, rfl, ?_⟩
         refine hK.out _ _ ⟨(yV BK470.out 0).trans rfl, (yV BK470.out 1).trans rfl, (yV BK470.out 2).trans rfl, (yV BK470.out 3).trans rfl, ((HB.out.cell (zE w _ hw472_0)).trans hw472_0), ((HB.out.cell (zE w _ hw473_0)).trans hw473_0)⟩ (fun hHeld => ?_)
         clear hK K
         refine norm_ (a' := ?_) ?_ ?_
         rotate_left
         ·show Act.put _ (some 39) _ = _
          simp only [Act.put, zA, zB, zC, i64_w, i32_w]
          rfl
         refine pure_ (i := 13) (N := some 40) (v := ?_) (a' := ?_) #[true, true, true, true, true, true, true, true, true, true, true, true, true, true, false] rfl rfl (any_of HT_.out (by kernel_rfl)) (fun _ _ _ h => h) (Or.inl ⟨by rfl, ?_⟩) ?_ ?_
         rotate_left
         ·intro w'
          go_simp
          with_reducible rfl
         rotate_left
         ·simp only [Act.put, zA, zB, zC, i64_w, i32_w]
          rfl
         refine pure_ (i := 14) (N := some 41) (v := ?_) (a' := ?_) #[true, true, true, true, true, true, true, true, true, true, true, true, true, true, true] rfl rfl (any_of HT_.out (by kernel_rfl)) (fun _ _ _ h => h) (Or.inl ⟨by rfl, ?_⟩) ?_ ?_
         rotate_left
         ·intro w'
          go_simp
          with_reducible rfl
         rotate_left
         ·simp only [Act.put, zA, zB, zC, i64_w, i32_w]
          rfl
         refine done_ (done_of HT_.out (by kernel_rfl)) ?_
         try go_wp2
         go_ret
         exact ⟨by first | rfl | (simp [errW_none, errW_some] <;> rfl) | (simp [*, errW_none, errW_some] <;> rfl), by repeat (first | (with_reducible first | exact HB.out | apply yO | apply yN | apply yP | refine yQ ?_ GE470.out) | exact HB.out)⟩
        ·rw [if_neg c18] at H
         have c18b0 : decide (t474 ≤ (rd l1 x6_2)) = false := decide_eq_false c18
         clear c18
         obtain ⟨t476, A20, H⟩ := bE H
         obtain ⟨ji21, hji21⟩ : ∃ j_ : Int, (mx x5_2 (t476.length : Int)) = j_ := ⟨_, rfl⟩
         replace H : (spec_Contains.l0 k2 l1 ji21 (wrap64 (x6_2 + 1)) a0_0 a0_1 l0_2 l0_3) = some r := by first | (rw [hji21] at H; exact H) | (simp only [hji21] at H ⊢; exact H)
         (try rw [hji21] at A17)
         (try rw [hji21] at A20)
         have hji21_ : (if x5_2 < (t476.length : Int) then (t476.length : Int) else x5_2) = ji21 := hji21
         have H' := yA H
         clear H
         try go_wp2
         replace BK470 := yA (yT BK470.out)
         replace HB := yA (yP HB.out)
         have p472 : 0 ≤ (x6_2 : Int) := zG (by assumption)
         have q472 : x6_2 < (l1.length : Int) := zG (by assumption)
         obtain ⟨ad472, e472, hx472_0⟩ := Kd.at_int HR1.out x6_2 p472 q472
         have hw472_0 := hx472_0
         cases e472
         try replace hx472_0 := (HB.out.cell (zE w _ hx472_0)).trans hx472_0
         replace p472 := eq_true p472
         replace q472 := eq_true q472
         have p473 : 0 ≤ (x6_2 : Int) := zG (by assumption)
         have q473 : x6_2 < (l1.length : Int) := zG (by assumption)
         obtain ⟨ad473, e473, hx473_0⟩ := Kd.at_int HR1.out x6_2 p473 q473
         have hw473_0 := hx473_0
         obtain rfl : ad472 = ad473 := (by injection e473)
         try replace hx473_0 := (HB.out.cell (zE w _ hx473_0)).trans hx473_0
         replace p473 := eq_true p473
         replace q473 := eq_true q473
         refine start_ (n := 15) (S := fun w' => w'.cell? ⟨gb470, 0, none⟩ = some (.int .i64 a0_0) ∧ w'.cell? ⟨gb470, 1, none⟩ = some (.int .i64 a0_1) ∧ w'.cell? ⟨gb470, 2, none⟩ = some (.slice A0_2 l0_2.length c0_2) ∧ w'.cell? ⟨gb470, 3, none⟩ = some (.slice A0_3 l0_3.length c0_3) ∧ w'.cell? (ad472.add (x6_2).toNat) = some (.int .i64 (rd l1 x6_2)) ∧ w'.cell? (ad472.add (x6_2).toNat) = some (.int .i64 (rd l1 x6_2))) (ds := []) #[false, false, false, false, false, false, false, false, false, false, false, false, false, false, false] (by kernel_rfl) rfl rfl ⟨(yV BK470.out 0).trans rfl, (yV BK470.out 1).trans rfl, (yV BK470.out 2).trans rfl, (yV BK470.out 3).trans rfl, ((HB.out.cell (zE w _ hw472_0)).trans hw472_0), ((HB.out.cell (zE w _ hw473_0)).trans hw473_0)⟩ (fun hHeld => ?_); refine with_tabW spec_Contains.tab7 spec_Contains.bits7 (fun HT_ HW_ => ?_)
         generalize wr.drew = w22 at BK470 HB hx472_0 hx473_0 hHeld ⊢
         refine pure_ (i := 0) (N := some 27) (v := ?_) (a' := ?_) #[true, false, false, false, false, false, false, false, false, false, false, false, false, false, false] rfl rfl (any_of HT_.out (by kernel_rfl)) (fun _ _ _ h => h) (Or.inl ⟨by rfl, ?_⟩) ?_ ?_
         rotate_left
         ·intro w'
          go_simp
          with_reducible rfl
         rotate_left
         ·simp only [Act.put, zA, zB, zC, i64_w, i32_w]
          rfl
         refine pure_ (i := 1) (N := some 28) (v := ?_) (a' := ?_) #[true, true, false, false, false, false, false, false, false, false, false, false, false, false, false] rfl rfl (any_of HT_.out (by kernel_rfl)) (fun _ _ _ h => h) (Or.inl ⟨by rfl, ?_⟩) ?_ ?_
         rotate_left
         ·intro w'
          go_simp
          with_reducible rfl
         rotate_left
         ·simp only [Act.put, zA, zB, zC, i64_w, i32_w]
          rfl
         refine pure_ (i := 2) (N := some 29) (v := ?_) (a' := ?_) #[true, true, true, false, false, false, false, false, false, false, false, false, false, false, false] rfl rfl (any_of HT_.out (by kernel_rfl)) (fun _ _ _ h => h) (Or.inl ⟨by rfl, ?_⟩) ?_ ?_
         rotate_left
         ·intro w'
          go_simp
          with_reducible rfl
         rotate_left
         ·simp only [Act.put, zA, zB, zC, i64_w, i32_w]
          rfl
         refine take_ (i := 3) (N := some 30) (v := ?_) (a' := ?_) #[true, true, true, true, false, false, false, false, false, false, false, false, false, false, false] rfl rfl (take_ofW HT_.out HW_.out (by kernel_rfl)) (fun _ _ _ h => h) (Or.inl ⟨by rfl, ?_⟩) hHeld ?_ ?_
         rotate_left
         ·rintro w' ⟨s0, s1, s2, s3, s4, s5⟩
          go_simp
          with_reducible rfl
         rotate_left
         ·simp only [Act.put, zA, zB, zC, i64_w, i32_w]
          rfl
         refine pure_ (i := 4) (N := some 31) (v := ?_) (a' := ?_) #[true, true, true, true, true, false, false, false, false, false, false, false, false, false, false] rfl rfl (any_of HT_.out (by kernel_rfl)) (fun _ _ _ h => h) (Or.inl ⟨by rfl, ?_⟩) ?_ ?_
         rotate_left
         ·intro w'
          go_simp
          with_reducible rfl
         rotate_left
         ·simp only [Act.put, zA, zB, zC, i64_w, i32_w]
          rfl
         refine pure_ (i := 5) (N := some 32) (v := ?_) (a' := ?_) #[true, true, true, true, true, true, false, false, false, false, false, false, false, false, false] rfl rfl (any_of HT_.out (by kernel_rfl)) (fun _ _ _ h => h) (Or.inl ⟨by rfl, ?_⟩) ?_ ?_
         rotate_left
         ·intro w'
          go_simp
          with_reducible rfl
         rotate_left
         ·simp only [Act.put, zA, zB, zC, i64_w, i32_w]
          rfl
         refine pure_ (i := 6) (N := some 33) (v := ?_) (a' := ?_) #[true, true, true, true, true, true, true, false, false, false, false, false, false, false, false] rfl rfl (any_of HT_.out (by kernel_rfl)) (fun _ _ _ h => h) (Or.inl ⟨by rfl, ?_⟩) ?_ ?_
         rotate_left
         ·intro w'
          go_simp
          with_reducible rfl
         rotate_left
         ·simp only [Act.put, zA, zB, zC, i64_w, i32_w]
          rfl
         refine pure_ (i := 7) (N := some 34) (v := ?_) (a' := ?_) #[true, true, true, true, true, true, true, true, false, false, false, false, false, false, false] rfl rfl (any_of HT_.out (by kernel_rfl)) (fun _ _ _ h => h) (Or.inl ⟨by rfl, ?_⟩) ?_ ?_
         rotate_left
         ·intro w'
          go_simp
          with_reducible rfl
         rotate_left
         ·simp only [Act.put, zA, zB, zC, i64_w, i32_w]
          rfl
         refine pure_ (i := 8) (N := some 35) (v := ?_) (a' := ?_) #[true, true, true, true, true, true, true, true, true, false, false, false, false, false, false] rfl rfl (any_of HT_.out (by kernel_rfl)) (fun _ _ _ h => h) (Or.inl ⟨by rfl, ?_⟩) ?_ ?_
         rotate_left
         ·intro w'
          go_simp
          with_reducible rfl
         rotate_left
         ·simp only [Act.put, zA, zB, zC, i64_w, i32_w]
          rfl
         refine pure_ (i := 10) (N := some 37) (v := ?_) (a' := ?_) #[true, true, true, true, true, true, true, true, true, false, true, false, false, false, false] rfl rfl (any_of HT_.out (by kernel_rfl)) (fun _ _ _ h => h) (Or.inl ⟨by rfl, ?_⟩) ?_ ?_
         rotate_left
         ·intro w'
          go_simp
          with_reducible rfl
         rotate_left
         ·simp only [Act.put, zA, zB, zC, i64_w, i32_w]
          rfl
         refine take_ (i := 9) (N := some 36) (v := ?_) (a' := ?_) #[true, true, true, true, true, true, true, true, true, true, true, false, false, false, false] rfl rfl (take_ofW HT_.out HW_.out (by kernel_rfl)) (fun _ _ _ h => h) (Or.inl ⟨by rfl, ?_⟩) hHeld ?_ ?_
         rotate_left
         ·rintro w' ⟨s0, s1, s2, s3, s4, s5⟩
          go_simp
          with_reducible rfl
         rotate_left
         ·simp only [Act.put, zA, zB, zC, i64_w, i32_w]
          rfl
         refine take_ (i := 11) (N := some 38) (v := ?_) (a' := ?_) #[true, true, true, true, true, true, true, true, true, true, true, true, false, false, false] rfl rfl (take_ofW HT_.out HW_.out (by kernel_rfl)) (fun _ _ _ h => h) (Or.inl ⟨by rfl, ?_⟩) hHeld ?_ ?_
         rotate_left
         ·rintro w' ⟨s0, s1, s2, s3, s4, s5⟩
          go_simp
          with_reducible rfl
         rotate_left
         ·simp only [Act.put, zA, zB, zC, i64_w, i32_w]
          rfl
         refine one_ (i := 12) (N := some 39) #[true, true, true, true, true, true, true, true, true, true, true, true, true, false, false] rfl rfl (one_of HT_.out (by kernel_rfl)) (by decide) (fun K hK => ?_)
         refine goes_ Try.func68 (by kernel_rfl) rfl #[.int .i64 a0_0, .int .i64 16] (by rfl) rfl rfl (by (try simp only [zI, zJ, zK]); first | done | rfl | (simp only [zL, zM]; rfl)) ?_
         with_reducible refine (spec_PowerOf.calls k2 a0_0 16 t474 _ A17.out).mono ?_
         rintro e w' ⟨rfl, ⟨nd, rfl⟩⟩
         refine ⟨_, rfl, ?_⟩
         refine hK.out _ _ ⟨(yV BK470.out 0).trans rfl, (yV BK470.out 1).trans rfl, (yV BK470.out 2).trans rfl, (yV BK470.out 3).trans rfl, ((HB.out.cell (zE w _ hw472_0)).trans hw472_0), ((HB.out.cell (zE w _ hw473_0)).trans hw473_0)⟩ (fun hHeld => ?_)
         clear hK K
         refine norm_ (a' := ?_) ?_ ?_
         rotate_left
         ·show Act.put _ (some 39) _ = _
          simp only [Act.put, zA, zB, zC, i64_w, i32_w]
          rfl
         refine pure_ (i := 13) (N := some 40) (v := ?_) (a' := ?_) #[true, true, true, true, true, true, true, true, true, true, true, true, true, true, false] rfl rfl (any_of HT_.out (by kernel_rfl)) (fun _ _ _ h => h) (Or.inl ⟨by rfl, ?_⟩) ?_ ?_
         rotate_left
         ·intro w'
          go_simp
          with_reducible rfl
         rotate_left
         ·simp only [Act.put, zA, zB, zC, i64_w, i32_w]
          rfl
         refine pure_ (i := 14) (N := some 41) (v := ?_) (a' := ?_) #[true, true, true, true, true, true, true, true, true, true, true, true, true, true, true] rfl rfl (any_of HT_.out (by kernel_rfl)) (fun _ _ _ h => h) (Or.inl ⟨by rfl, ?_⟩) ?_ ?_
         rotate_left
         ·intro w'
          go_simp
          with_reducible rfl
         rotate_left
         ·simp only [Act.put, zA, zB, zC, i64_w, i32_w]
          rfl
         refine done_ (done_of HT_.out (by kernel_rfl)) ?_
         try go_wp2
         (try (rw [drewN_self w22]; generalize hq_ : World.drewN w22 _ = w22; have n0_ : Aside0 (w22.heap[gb470]? = some (.cells #[.int .i64 a0_0, .int .i64 a0_1, .slice A0_2 l0_2.length c0_2, .slice A0_3 l0_3.length c0_3] 25 (0, 0))) := ⟨by rw [← hq_]; exact (mK BK470.out)⟩; have n1_ : Aside0 (Below w.heap.size w w22) := ⟨by rw [← hq_]; exact (by with_reducible repeat first | exact HB.out | apply yO | apply yN | apply yP | refine yQ ?_ GE470.out)⟩; clear BK470 HB hq_; have BK470 := n0_; have HB := n1_; clear n0_ n1_))
         replace BK470 := yA (yT BK470.out)
         replace HB := yA (yP HB.out)
         have p475 : 0 ≤ (x6_2 : Int) := zG (by assumption)
         have q475 : x6_2 < (l1.length : Int) := zG (by assumption)
         obtain ⟨ad475, e475, hx475_0⟩ := Kd.at_int HR1.out x6_2 p475 q475
         have hw475_0 := hx475_0
         obtain rfl : ad472 = ad475 := (by injection e475)
         try replace hx475_0 := (HB.out.cell (zE w _ hx475_0)).trans hx475_0
         replace p475 := eq_true p475
         replace q475 := eq_true q475
         refine start_ (n := 11) (S := fun w' => w'.cell? ⟨gb470, 0, none⟩ = some (.int .i64 a0_0) ∧ w'.cell? ⟨gb470, 1, none⟩ = some (.int .i64 a0_1) ∧ w'.cell? ⟨gb470, 2, none⟩ = some (.slice A0_2 l0_2.length c0_2) ∧ w'.cell? ⟨gb470, 3, none⟩ = some (.slice A0_3 l0_3.length c0_3) ∧ w'.cell? (ad472.add (x6_2).toNat) = some (.int .i64 (rd l1 x6_2))) (ds := []) #[false, false, false, false, false, false, false, false, false, false, false] (by kernel_rfl) rfl rfl ⟨(yV BK470.out 0).trans rfl, (yV BK470.out 1).trans rfl, (yV BK470.out 2).trans rfl, (yV BK470.out 3).trans rfl, ((HB.out.cell (zE w _ hw475_0)).trans hw475_0)⟩ (fun hHeld => ?_); refine with_tabW spec_Contains.tab9 spec_Contains.bits9 (fun HT_ HW_ => ?_)
         generalize w22.drew = w23 at BK470 HB hx475_0 hHeld ⊢
         refine pure_ (i := 0) (N := some 42) (v := ?_) (a' := ?_) #[true, false, false, false, false, false, false, false, false, false, false] rfl rfl (any_of HT_.out (by kernel_rfl)) (fun _ _ _ h => h) (Or.inl ⟨by rfl, ?_⟩) ?_ ?_
         rotate_left
         ·intro w'
          go_simp
          with_reducible rfl
         rotate_left
         ·simp only [Act.put, zA, zB, zC, i64_w, i32_w]
          rfl
         refine pure_ (i := 1) (N := some 43) (v := ?_) (a' := ?_) #[true, true, false, false, false, false, false, false, false, false, false] rfl rfl (any_of HT_.out (by kernel_rfl)) (fun _ _ _ h => h) (Or.inl ⟨by rfl, ?_⟩) ?_ ?_
         rotate_left
         ·intro w'
          go_simp
          with_reducible rfl
         rotate_left
         ·simp only [Act.put, zA, zB, zC, i64_w, i32_w]
          rfl
         refine pure_ (i := 2) (N := some 44) (v := ?_) (a' := ?_) #[true, true, true, false, false, false, false, false, false, false, false] rfl rfl (any_of HT_.out (by kernel_rfl)) (fun _ _ _ h => h) (Or.inl ⟨by rfl, ?_⟩) ?_ ?_
         rotate_left
         ·intro w'
          go_simp
          with_reducible rfl
         rotate_left
         ·simp only [Act.put, zA, zB, zC, i64_w, i32_w]
          rfl
         refine pure_ (i := 3) (N := some 45) (v := ?_) (a' := ?_) #[true, true, true, true, false, false, false, false, false, false, false] rfl rfl (any_of HT_.out (by kernel_rfl)) (fun _ _ _ h => h) (Or.inl ⟨by rfl, ?_⟩) ?_ ?_
         rotate_left
         ·intro w'
          go_simp
          with_reducible rfl
         rotate_left
         ·simp only [Act.put, zA, zB, zC, i64_w, i32_w]
          rfl
         refine pure_ (i := 5) (N := some 47) (v := ?_) (a' := ?_) #[true, true, true, true, false, true, false, false, false, false, false] rfl rfl (any_of HT_.out (by kernel_rfl)) (fun _ _ _ h => h) (Or.inl ⟨by rfl, ?_⟩) ?_ ?_
         rotate_left
         ·intro w'
          go_simp
          with_reducible rfl
         rotate_left
         ·simp only [Act.put, zA, zB, zC, i64_w, i32_w]
          rfl
         refine take_ (i := 4) (N := some 46) (v := ?_) (a' := ?_) #[true, true, true, true, true, true, false, false, false, false, false] rfl rfl (take_ofW HT_.out HW_.out (by kernel_rfl)) (fun _ _ _ h => h) (Or.inl ⟨by rfl, ?_⟩) hHeld ?_ ?_
         rotate_left
         ·rintro w' ⟨s0, s1, s2, s3, s4⟩
          go_simp
          with_reducible rfl
         rotate_left
         ·simp only [Act.put, zA, zB, zC, i64_w, i32_w]
          rfl
         refine take_ (i := 6) (N := some 48) (v := ?_) (a' := ?_) #[true, true, true, true, true, true, true, false, false, false, false] rfl rfl (take_ofW HT_.out HW_.out (by kernel_rfl)) (fun _ _ _ h => h) (Or.inl ⟨by rfl, ?_⟩) hHeld ?_ ?_
         rotate_left
         ·rintro w' ⟨s0, s1, s2, s3, s4⟩
          go_simp
          with_reducible rfl
         rotate_left
         ·simp only [Act.put, zA, zB, zC, i64_w, i32_w]
          rfl
         refine one_ (i := 7) (N := some 49) #[true, true, true, true, true, true, true, true, false, false, false] rfl rfl (one_of HT_.out (by kernel_rfl)) (by decide) (fun K hK => ?_)
         refine goes_ Try.func57 (by kernel_rfl) rfl #[.int .i64 (rd l1 x6_2), .int .i64 a0_0] (by rfl) rfl rfl (by (try simp only [zI, zJ, zK]); first | done | rfl | (simp only [zL, zM]; rfl)) ?_
         with_reducible refine (spec_DigitsOf.calls k2 (rd l1 x6_2) a0_0 t476 _ A20.out).mono ?_
         rintro e w24 ⟨v477, rfl, ho0, hb⟩
         refine ⟨_, rfl, ?_⟩
         have HO478 := yA (Kd.R_lower ho0 (yX (by with_reducible repeat first | exact HB.out | apply yO | apply yN | apply yP | refine yQ ?_ GE470.out)))
         replace BK470 := yA (yU (mK BK470.out) hb)
         replace HB := yA (zD (by with_reducible repeat first | exact HB.out | apply yO | apply yN | apply yP | refine yQ ?_ GE470.out) hb)
         (try clear hb)
         (try clear hb2)
         (try clear hk)
         (try clear hi)
         (try clear ho0)
         obtain ⟨Ao25, co25, eo25⟩ := Kd.R_slice HO478.out
         (first | subst eo25 | (injection eo25 with f1_ f2_ f3_; have f4_ := f1_.symm; have f5_ := f3_.symm; clear f1_ f2_ f3_; subst f4_; subst f5_))
         refine hK.out _ _ ⟨(yV BK470.out 0).trans rfl, (yV BK470.out 1).trans rfl, (yV BK470.out 2).trans rfl, (yV BK470.out 3).trans rfl, ((HB.out.cell (zE w _ hw475_0)).trans hw475_0)⟩ (fun hHeld => ?_)
         clear hK K
         refine norm_ (a' := ?_) ?_ ?_
         rotate_left
         ·show Act.put _ (some 49) _ = _
          simp only [Act.put, zA, zB, zC, i64_w, i32_w]
          rfl
         refine pure_ (i := 8) (N := some 50) (v := ?_) (a' := ?_) #[true, true, true, true, true, true, true, true, true, false, false] rfl rfl (any_of HT_.out (by kernel_rfl)) (fun _ _ _ h => h) (Or.inl ⟨by rfl, ?_⟩) ?_ ?_
         rotate_left
         ·intro w'
          go_simp
          with_reducible rfl
         rotate_left
         ·simp only [Act.put, zA, zB, zC, i64_w, i32_w]
          rfl
         refine pure_ (i := 9) (N := some 51) (v := ?_) (a' := ?_) #[true, true, true, true, true, true, true, true, true, true, false] rfl rfl (any_of HT_.out (by kernel_rfl)) (fun _ _ _ h => h) (Or.inl ⟨by rfl, ?_⟩) ?_ ?_
         rotate_left
         ·intro w'
          go_simp
          with_reducible rfl
         rotate_left
         ·simp only [Act.put, zA, zB, zC, i64_w, i32_w]
          rfl
         refine pure_ (i := 10) (N := some 5) (v := ?_) (a' := ?_) #[true, true, true, true, true, true, true, true, true, true, true] rfl rfl (any_of HT_.out (by kernel_rfl)) (fun _ _ _ h => h) (Or.inl ⟨by rfl, ?_⟩) ?_ ?_
         rotate_left
         ·intro w'
          go_simp
          with_reducible rfl
         rotate_left
         ·simp only [Act.put, zA, zB, zC, i64_w, i32_w]
          rfl
         refine done_ (done_of HT_.out (by kernel_rfl)) ?_
         try go_wp2
         go_roundg k2
         case measure => have := HJ2.out; have := HK2.out; omega
         case rel => exact ⟨(ji21), (wrap64 (x6_2 + 1)), (by first | rfl | (simp; done) | (simp only [← hji21] <;> (first | rfl | simp)) | (simp [*]; done)), (by first | rfl | (simp; done) | (simp [*]; done)), H', ⟨by have := HJ2.out; have := HK2.out; omega⟩, ⟨mK BK470.out⟩, ⟨by repeat (first | (with_reducible first | exact HB.out | apply yO | apply yN | apply yP | refine yQ ?_ GE470.out) | exact HB.out)⟩⟩
      ·rw [if_neg c13] at H
       have c13b0 : decide (x6_2 < (l1.length : Int)) = false := decide_eq_false c13
       clear c13
       have H' := yA H
       clear H
       go_wp2
       go_loopg [7, 8] k2 (fun kq v7 v8 w' => ∃ (x7_3 : Int) (x8_3 : Int), v7 = .int .i64 x7_3 ∧ v8 = .int .i64 x8_3 ∧ Aside0 (spec_Contains.l1 kq l1 x5_2 x7_3 x8_3 a0_0 a0_1 l0_2 l0_3 = some r) ∧ Aside0 (kq ≤ k2) ∧ Aside0 (w'.heap[gb470]? = some (.cells #[.int .i64 a0_0, .int .i64 a0_1, (.slice A0_2 l0_2.length c0_2), (.slice A0_3 l0_3.length c0_3)] 25 (0, 0))) ∧ Aside0 (Below w.heap.size w w'))
       case atStart => exact ⟨(0), (0), (by first | rfl | (simp; done) | (simp [*]; done)), (by first | rfl | (simp; done) | (simp [*]; done)), H', ⟨zT _⟩, ⟨mK BK470.out⟩, ⟨by repeat (first | (with_reducible first | exact HB.out | apply yO | apply yN | apply yP | refine yQ ?_ GE470.out) | exact HB.out)⟩⟩
       case round =>
        clear H'
        (try clear c1);(try clear p2);(try clear p4);(try clear q4);(try clear hx4);(try clear c5);(try clear c6);(try clear p6);(try clear c13);(try clear c13b0);(try clear c14);(try clear c14b0);(try clear c15);(try clear c15b0);(try clear c18);(try clear c18b0);(try clear hx472_0);(try clear hx473_0);(try clear hx475_0);(try clear p472);(try clear p473);(try clear p475);(try clear q472);(try clear q473);(try clear q475)
        obtain ⟨x7_3, x8_3, rfl, rfl, HA, HK3, BK470, HB⟩ := hrel
        cases gk with
        | zero => exact absurd HA.out (by simp [spec_Contains.l1])
        | succ k3 =>
         have H := HA.out
         clear HA
         simp only [spec_Contains.l1] at H
         by_cases c26 : x8_3 < x5_2
         ·rw [if_pos c26] at H
          have c26b0 : decide (x8_3 < x5_2) = true := zH c26
          clear c26
          (first | ((with_reducible replace H := bS H); obtain ⟨y480, Ny480, H⟩ := H) | (obtain ⟨y480, Ny480⟩ : ∃ y_ : List Int, y_ = (([] : List Int)) := ⟨_, rfl⟩; rw [← Ny480] at H; replace Ny480 := yA Ny480))
          have H' := yA H
          clear H
          go_wp2_with (first | ((with_reducible refine gate_dst (N := 57) rfl ?_); refine Kd.R_lit (Kd.int .i64) _ 3 ?hg (N := 57) ?hd (xs := ([] : List Int)) (inner := []) (ok := fun _ => True) (okp := fun _ => True) ?hr ?hp (fun _ hk => hk) trivial (zV _ _) (zT _) (by simp) ?_; (case hd => rfl); (case hg => rfl); (case hr => first | (go_simp; done) | (go_simp; rfl)); (case hp => exact (Reps.none _ _)); intro v481 w27 ho28 hb hg_ hnew_; clear hg_ hnew_; (first | rw [← Ny480.out] at ho28 | (simp only [Int.reduceToNat] at ho28; rw [← Ny480.out] at ho28)); have HO482 := yA (Kd.R_lower ho28 (yX (by with_reducible repeat first | exact HB.out | apply yO | apply yN | apply yP | refine yQ ?_ GE470.out))); replace BK470 := yA (yU (mK BK470.out) hb); replace HB := yA (zD (by with_reducible repeat first | exact HB.out | apply yO | apply yN | apply yP | refine yQ ?_ GE470.out) hb); clear hb ho28))
          go_loopg [9, 10] k3 (fun kq v9 v10 w' => ∃ (x9_4 : List Int) (x10_4 : Int), v10 = .int .i64 x10_4 ∧ Aside0 (spec_Contains.l2 kq l1 x5_2 x7_3 x8_3 x9_4 x10_4 a0_0 a0_1 l0_2 l0_3 = some r) ∧ Aside0 (kq ≤ k3) ∧ Aside0 (Kd.R (Kd.int .i64) 3 w' w.heap.size (fun _ => True) v9 x9_4) ∧ Aside0 (w'.heap[gb470]? = some (.cells #[.int .i64 a0_0, .int .i64 a0_1, (.slice A0_2 l0_2.length c0_2), (.slice A0_3 l0_3.length c0_3)] 25 (0, 0))) ∧ Aside0 (Below w.heap.size w w'))
          case atStart => exact ⟨(y480), (0), (by first | rfl | (simp; done) | (simp [*]; done)), H', ⟨zT _⟩, ⟨mR HO482.out⟩, ⟨mK BK470.out⟩, ⟨by repeat (first | (with_reducible first | exact HB.out | apply yO | apply yN | apply yP | refine yQ ?_ GE470.out) | exact HB.out)⟩⟩
          case round =>
           clear H'
           (try clear c1);(try clear c2);(try clear p2);(try clear p4);(try clear q4);(try clear hx4);(try clear c5);(try clear c6);(try clear p6);(try clear c13);(try clear c13b0);(try clear c14);(try clear c14b0);(try clear c15);(try clear c15b0);(try clear c18);(try clear c18b0);(try clear c26);(try clear c26b0);(try clear hx472_0);(try clear hx473_0);(try clear hx475_0);(try clear p2);(try clear p4);(try clear p472);(try clear p473);(try clear p475);(try clear p6);(try clear q4);(try clear q472);(try clear q473);(try clear q475)
           obtain ⟨x9_4, x10_4, rfl, HA, HK4, HO_9, BK470, HB⟩ := hrel
           cases gk with
           | zero => exact absurd HA.out (by simp [spec_Contains.l2])
           | succ k4 =>
            have H := HA.out
            clear HA
            simp only [spec_Contains.l2] at H
            by_cases c29 : x10_4 < (l1.length : Int)
            ·rw [if_pos c29] at H
             have c29b0 : decide (x10_4 < (l1.length : Int)) = true := zH c29
             clear c29
             obtain ⟨c30, H⟩ := iP H
             have c30b0 : decide (0 ≤ x10_4) = true := zH c30
             clear c30
             obtain ⟨t484, A31, H⟩ := bE H
             obtain ⟨t487, A32, H⟩ := bE H
             obtain ⟨c33, H⟩ := iP H
             have c33b0 : decide (0 ≤ x8_3) = true := zH c33
             clear c33
             obtain ⟨c34, H⟩ := iP H
             have c34b0 : decide (x8_3 < (t487.length : Int)) = true := zH c34
             clear c34
             obtain ⟨c35, H⟩ := iP H
             have LMc35 := yA c35
             clear c35
             (first | ((with_reducible replace H := bS H); obtain ⟨y491, Ny491, H⟩ := H) | (obtain ⟨y491, Ny491⟩ : ∃ y_ : List Int, y_ = (x9_4 ++ [rd t487 x8_3]) := ⟨_, rfl⟩; rw [← Ny491] at H; replace Ny491 := yA Ny491))
             have H' := yA H
             clear H
             try go_wp2
             replace HO_9 := yA (yD HO_9.out)
             replace BK470 := yA (yT BK470.out)
             replace HB := yA (yP HB.out)
             have p483 : 0 ≤ (x10_4 : Int) := zG (by assumption)
             have q483 : x10_4 < (l1.length : Int) := zG (by assumption)
             obtain ⟨ad483, e483, hx483_0⟩ := Kd.at_int HR1.out x10_4 p483 q483
             have hw483_0 := hx483_0
             cases e483
             try replace hx483_0 := (HB.out.cell (zE w _ hx483_0)).trans hx483_0
             replace p483 := eq_true p483
             replace q483 := eq_true q483
             refine start_ (n := 16) (S := fun w' => w'.cell? ⟨gb470, 0, none⟩ = some (.int .i64 a0_0) ∧ w'.cell? ⟨gb470, 1, none⟩ = some (.int .i64 a0_1) ∧ w'.cell? ⟨gb470, 2, none⟩ = some (.slice A0_2 l0_2.length c0_2) ∧ w'.cell? ⟨gb470, 3, none⟩ = some (.slice A0_3 l0_3.length c0_3) ∧ w'.cell? (ad483.add (x10_4).toNat) = some (.int .i64 (rd l1 x10_4)) ∧ True) (ds := [13, 14]) #[false, false, false, false, false, false, false, false, false, false, false, false, false, false, false, false] (by kernel_rfl) rfl rfl ⟨(yV BK470.out 0).trans rfl, (yV BK470.out 1).trans rfl, (yV BK470.out 2).trans rfl, (yV BK470.out 3).trans rfl, ((HB.out.cell (zE w _ hw483_0)).trans hw483_0), trivial⟩ (fun hHeld => ?_); refine with_tabW spec_Contains.tab18 spec_Contains.bits18 (fun HT_ HW_ => ?_)
             generalize wr.drew = w36 at HO_9 BK470 HB hx483_0 hHeld ⊢
             refine pure_ (i := 0) (N := some 64) (v := ?_) (a' := ?_) #[true, false, false, false, false, false, false, false, false, false, false, false, false, false, false, false] rfl rfl (any_of HT_.out (by kernel_rfl)) (fun _ _ _ h => h) (Or.inl ⟨by rfl, ?_⟩) ?_ ?_
             rotate_left
             ·intro w'
              go_simp
              with_reducible rfl
             rotate_left
             ·simp only [Act.put, zA, zB, zC, i64_w, i32_w]
              rfl
             refine pure_ (i := 1) (N := some 65) (v := ?_) (a' := ?_) #[true, true, false, false, false, false, false, false, false, false, false, false, false, false, false, false] rfl rfl (any_of HT_.out (by kernel_rfl)) (fun _ _ _ h => h) (Or.inl ⟨by rfl, ?_⟩) ?_ ?_
             rotate_left
             ·intro w'
              go_simp
              with_reducible rfl
             rotate_left
             ·simp only [Act.put, zA, zB, zC, i64_w, i32_w]
              rfl
             refine pure_ (i := 2) (N := some 66) (v := ?_) (a' := ?_) #[true, true, true, false, false, false, false, false, false, false, false, false, false, false, false, false] rfl rfl (any_of HT_.out (by kernel_rfl)) (fun _ _ _ h => h) (Or.inl ⟨by rfl, ?_⟩) ?_ ?_
             rotate_left
             ·intro w'
              go_simp
              with_reducible rfl
             rotate_left
             ·simp only [Act.put, zA, zB, zC, i64_w, i32_w]
              rfl
             refine pure_ (i := 3) (N := some 67) (v := ?_) (a' := ?_) #[true, true, true, true, false, false, false, false, false, false, false, false, false, false, false, false] rfl rfl (any_of HT_.out (by kernel_rfl)) (fun _ _ _ h => h) (Or.inl ⟨by rfl, ?_⟩) ?_ ?_
             rotate_left
             ·intro w'
              go_simp
              with_reducible rfl
             rotate_left
             ·simp only [Act.put, zA, zB, zC, i64_w, i32_w]
              rfl
             refine pure_ (i := 5) (N := some 69) (v := ?_) (a' := ?_) #[true, true, true, true, false, true, false, false, false, false, false, false, false, false, false, false] rfl rfl (any_of HT_.out (by kernel_rfl)) (fun _ _ _ h => h) (Or.inl ⟨by rfl, ?_⟩) ?_ ?_
             rotate_left
             ·intro w'
              go_simp
              with_reducible rfl
             rotate_left
             ·simp only [Act.put, zA, zB, zC, i64_w, i32_w]
              rfl
             refine pure_ (i := 8) (N := some 72) (v := ?_) (a' := ?_) #[true, true, true, true, false, true, false, false, true, false, false, false, false, false, false, false] rfl rfl (any_of HT_.out (by kernel_rfl)) (fun _ _ _ h => h) (Or.inl ⟨by rfl, ?_⟩) ?_ ?_
             rotate_left
             ·intro w'
              go_simp
              with_reducible rfl
             rotate_left
             ·simp only [Act.put, zA, zB, zC, i64_w, i32_w]
              rfl
             refine pure_ (i := 10) (N := some 74) (v := ?_) (a' := ?_) #[true, true, true, true, false, true, false, false, true, false, true, false, false, false, false, false] rfl rfl (any_of HT_.out (by kernel_rfl)) (fun _ _ _ h => h) (Or.inl ⟨by rfl, ?_⟩) ?_ ?_
             rotate_left
             ·intro w'
              go_simp
              with_reducible rfl
             rotate_left
             ·simp only [Act.put, zA, zB, zC, i64_w, i32_w]
              rfl
             refine take_ (i := 4) (N := some 68) (v := ?_) (a' := ?_) #[true, true, true, true, true, true, false, false, true, false, true, false, false, false, false, false] rfl rfl (take_ofW HT_.out HW_.out (by kernel_rfl)) (fun _ _ _ h => h) (Or.inl ⟨by rfl, ?_⟩) hHeld ?_ ?_
             rotate_left
             ·rintro w' ⟨s0, s1, s2, s3, s4, s5⟩
              go_simp
              with_reducible rfl
             rotate_left
             ·simp only [Act.put, zA, zB, zC, i64_w, i32_w]
              rfl
             refine take_ (i := 6) (N := some 70) (v := ?_) (a' := ?_) #[true, true, true, true, true, true, true, false, true, false, true, false, false, false, false, false] rfl rfl (take_ofW HT_.out HW_.out (by kernel_rfl)) (fun _ _ _ h => h) (Or.inl ⟨by rfl, ?_⟩) hHeld ?_ ?_
             rotate_left
             ·rintro w' ⟨s0, s1, s2, s3, s4, s5⟩
              go_simp
              with_reducible rfl
             rotate_left
             ·simp only [Act.put, zA, zB, zC, i64_w, i32_w]
              rfl
             refine one_ (i := 7) (N := some 71) #[true, true, true, true, true, true, true, true, true, false, true, false, false, false, false, false] rfl rfl (one_of HT_.out (by kernel_rfl)) (by decide) (fun K hK => ?_)
             refine goes_ Try.func57 (by kernel_rfl) rfl #[.int .i64 (rd l1 x10_4), .int .i64 a0_0] (by rfl) rfl rfl (by (try simp only [zI, zJ, zK]); first | done | rfl | (simp only [zL, zM]; rfl)) ?_
             with_reducible refine (spec_DigitsOf.calls k4 (rd l1 x10_4) a0_0 t484 _ A31.out).mono ?_
             rintro e w37 ⟨v485, rfl, ho0, hb⟩
             have HS5_ := trivial
             refine ⟨_, rfl, ?_⟩
             have HO486 := yA (Kd.R_lower (Kd.R_new' ho0 (yZ (mR HO_9.out))) (yX (by with_reducible repeat first | exact HB.out | apply yO | apply yN | apply yP | refine yQ ?_ GE470.out)))
             replace HO_9 := yA (zO (mR HO_9.out) (yY ho0) hb)
             replace BK470 := yA (yU (mK BK470.out) hb)
             replace HB := yA (zD (by with_reducible repeat first | exact HB.out | apply yO | apply yN | apply yP | refine yQ ?_ GE470.out) hb)
             (try clear hb)
             (try clear hb2)
             (try clear hk)
             (try clear hi)
             (try clear ho0)
             obtain ⟨Ao38, co38, eo38⟩ := Kd.R_slice HO486.out
             (first | subst eo38 | (injection eo38 with f1_ f2_ f3_; have f4_ := f1_.symm; have f5_ := f3_.symm; clear f1_ f2_ f3_; subst f4_; subst f5_))
             refine hK.out _ _ ⟨(yV BK470.out 0).trans rfl, (yV BK470.out 1).trans rfl, (yV BK470.out 2).trans rfl, (yV BK470.out 3).trans rfl, ((HB.out.cell (zE w _ hw483_0)).trans hw483_0), HS5_⟩ (fun hHeld => ?_)
             clear hK K
             refine norm_ (a' := ?_) ?_ ?_
             rotate_left
             ·show Act.put _ (some 71) _ = _
              simp only [Act.put, zA, zB, zC, i64_w, i32_w]
              rfl
             refine one_ (i := 9) (N := some 73) #[true, true, true, true, true, true, true, true, true, true, true, false, false, false, false, false] rfl rfl (one_of HT_.out (by kernel_rfl)) (by decide) (fun K hK => ?_)
             refine goes_ Try.func69 (by kernel_rfl) rfl #[.slice Ao38 t484.length co38, .int .i64 x5_2] (by rfl) rfl rfl (by (try simp only [zI, zJ, zK]); first | done | rfl | (simp only [zL, zM]; rfl)) ?_
             with_reducible refine (spec_PadDigits.calls k4 _ _ t484 x5_2 t487 _ ?side1 ?side2 A32.out).mono ?_
             (case side1 => exact mC ((zN HO486.out).2.2))
             (case side2 => exact (zN HO486.out).2.1)
             rintro e w39 ⟨v488, rfl, ho0, hb⟩
             have HS5_ := trivial
             refine ⟨_, rfl, ?_⟩
             have HO489 := yA (Kd.R_lower (Kd.R_new' (Kd.R_new' ho0 (yZ (mR HO_9.out))) (yZ (mR HO486.out))) (yX (by with_reducible repeat first | exact HB.out | apply yO | apply yN | apply yP | refine yQ ?_ GE470.out)))
             replace HO_9 := yA (zO (mR HO_9.out) (yY ho0) hb)
             replace HO486 := yA (zO (mR HO486.out) (yY ho0) hb)
             replace BK470 := yA (yU (mK BK470.out) hb)
             replace HB := yA (zD (by with_reducible repeat first | exact HB.out | apply yO | apply yN | apply yP | refine yQ ?_ GE470.out) hb)
             (try clear hb)
             (try clear hb2)
             (try clear hk)
             (try clear hi)
             (try clear ho0)
             obtain ⟨Ao40, co40, eo40⟩ := Kd.R_slice HO489.out
             (first | subst eo40 | (injection eo40 with f1_ f2_ f3_; have f4_ := f1_.symm; have f5_ := f3_.symm; clear f1_ f2_ f3_; subst f4_; subst f5_))
             have p490 : 0 ≤ (x8_3 : Int) := zG (by assumption)
             have q490 : x8_3 < (t487.length : Int) := zG (by assumption)
             obtain ⟨ad490, e490, hx490_0⟩ := Kd.at_int (zN HO489.out).2.2 x8_3 p490 q490
             cases e490
             replace p490 := eq_true p490
             replace q490 := eq_true q490
             refine hK.out _ _ ⟨(yV BK470.out 0).trans rfl, (yV BK470.out 1).trans rfl, (yV BK470.out 2).trans rfl, (yV BK470.out 3).trans rfl, ((HB.out.cell (zE w _ hw483_0)).trans hw483_0), HS5_⟩ (fun hHeld => ?_)
             clear hK K
             refine norm_ (a' := ?_) ?_ ?_
             rotate_left
             ·show Act.put _ (some 73) _ = _
              simp only [Act.put, zA, zB, zC, i64_w, i32_w]
              rfl
             refine pure_ (i := 11) (N := some 75) (v := ?_) (a' := ?_) #[true, true, true, true, true, true, true, true, true, true, true, true, false, false, false, false] rfl rfl (any_of HT_.out (by kernel_rfl)) (fun _ _ _ h => h) (Or.inl ⟨by rfl, ?_⟩) ?_ ?_
             rotate_left
             ·intro w'
              go_simp
              with_reducible rfl
             rotate_left
             ·simp only [Act.put, zA, zB, zC, i64_w, i32_w]
              rfl
             refine one_ (i := 12) (N := some 76) #[true, true, true, true, true, true, true, true, true, true, true, true, true, false, false, false] rfl rfl (one_of HT_.out (by kernel_rfl)) (by decide) (fun K hK => ?_)
             refine value_ (w1 := ?_) (v := ?_) (by rfl) rfl ?_ ?_
             rotate_left 2
             ·go_simp
              constructor
              ·rfl
              ·rfl
             refine hK.out _ _ ⟨(yV BK470.out 0).trans rfl, (yV BK470.out 1).trans rfl, (yV BK470.out 2).trans rfl, (yV BK470.out 3).trans rfl, ((HB.out.cell (zE w _ hw483_0)).trans hw483_0), trivial⟩ (fun hHeld => ?_)
             clear hK K
             refine norm_ (a' := ?_) ?_ ?_
             rotate_left
             ·show Act.put _ (some 76) _ = _
              simp only [Act.put, zA, zB, zC, i64_w, i32_w]
              rfl
             refine last_ (i := 13) (N := some 77) #[true, true, true, true, true, true, true, true, true, true, true, true, true, true, false, false] rfl rfl (one_of HT_.out (by kernel_rfl)) (by decide) (fun K hK => ?_)
             refine value_ (w1 := ?_) (v := ?_) (by rfl) rfl ?_ ?_
             rotate_left 2
             ·go_simp
              constructor
              ·rfl
              ·rfl
             refine hK.out _ _ ?_
             clear hK K
             refine norm_ (a' := ?_) ?_ ?_
             rotate_left
             ·show Act.put _ (some 77) _ = _
              simp only [Act.put, zA, zB, zC, i64_w, i32_w]
              rfl
             refine last_ (i := 14) (N := some 78) #[true, true, true, true, true, true, true, true, true, true, true, true, true, true, true, false] rfl rfl (one_of HT_.out (by kernel_rfl)) (by decide) (fun K hK => ?_)
             refine Kd.R_append_step (Kd.int .i64) (w0 := w) w.heap.size (by rfl) (.tmp 64) (.tmp 77) 38 3 (.int .i64 0) 8 rfl Try.underlying38 info3 rfl (by decide) (by omega) u9 x9_4 (rd t487 x8_3) [.int .i64 (rd t487 x8_3)] (fun k_ => some k_ ≠ (.slice Ao38 t484.length co38 : Value).ownBlock ∧ some k_ ≠ (.slice (some ad490) t487.length co40 : Value).ownBlock) (fun _ => False) rfl rfl ?aP (fun _ hk => hk.elim) ?aF ?aO ?aB ?aS ?aL ?_
             (case aP => exact rfl)
             (case aB => exact (by with_reducible repeat first | exact HB.out | apply yO | apply yN | apply yP | refine yQ ?_ GE470.out))
             (case aF => exact (fun k_ hk => ⟨Kd.fresh' (yZ (mR HO486.out)) k_ hk, Kd.fresh' (yZ (mR HO489.out)) k_ hk⟩))
             (case aO => exact (mR (zP HO_9.out (fun _ hk => ⟨hk.1.2, hk.2⟩))))
             (case aS => exact (yX (by with_reducible repeat first | exact HB.out | apply yO | apply yN | apply yP | refine yQ ?_ GE470.out)))
             (case aL => have := LMc35.out; omega)
             intro v492 w41 ho hb hg hat
             rw [← Ny491.out] at ho
             have n0_ := yA (blk_grown (g := gb470) (o := .cells #[.int .i64 a0_0, .int .i64 a0_1, .slice A0_2 l0_2.length c0_2, .slice A0_3 l0_3.length c0_3] 25 (0, 0)) (mK BK470.out) hg (zW HO_9.out BK470.out (by decide)))
             have n1_ := yA (Kd.R_after (ok := (fun k_ => some k_ ≠ (.slice (some ad490) t487.length co40 : Value).ownBlock)) (mR (zP HO486.out (fun _ hk => ⟨hk.2, hk.1.2⟩))) hg hat)
             have n2_ := yA (Kd.R_after (ok := (fun k_ => some k_ ≠ (.slice Ao38 t484.length co38 : Value).ownBlock)) (mR (zP HO489.out (fun _ hk => ⟨hk.2, hk.1.2⟩))) hg hat)
             have n3_ := yA (hb)
             have n4_ := yA (ho)
             clear BK470 HO486 HO489 HB HO_9
             have BK470 := n0_
             have HO486 := n1_
             have HO489 := n2_
             have HB := n3_
             have HO493 := n4_
             clear n0_ n1_ n2_ n3_ n4_ ho hb hg hat
             refine hK.out _ _ ?_
             clear hK K
             refine norm_ (a' := ?_) ?_ ?_
             rotate_left
             ·show Act.put _ (some 78) _ = _
              simp only [Act.put, zA, zB, zC, i64_w, i32_w]
              rfl
             refine pure_ (i := 15) (N := some 9) (v := ?_) (a' := ?_) #[true, true, true, true, true, true, true, true, true, true, true, true, true, true, true, true] rfl rfl (any_of HT_.out (by kernel_rfl)) (fun _ _ _ h => h) (Or.inl ⟨by rfl, ?_⟩) ?_ ?_
             rotate_left
             ·intro w'
              go_simp
              with_reducible rfl
             rotate_left
             ·simp only [Act.put, zA, zB, zC, i64_w, i32_w]
              rfl
             refine done_ (done_of HT_.out (by kernel_rfl)) ?_
             try go_wp2
             go_roundg k4
             case measure => have := HJ2.out; have := HK2.out; have := HK3.out; have := HK4.out; omega
             case rel => exact ⟨(y491), (wrap64 (x10_4 + 1)), (by first | rfl | (simp; done) | (simp [*]; done)), H', ⟨by have := HJ2.out; have := HK2.out; have := HK3.out; have := HK4.out; omega⟩, ⟨by (with_reducible repeat (first | apply yB | apply yC | apply yD)); exact zP HO493.out (fun _ hk => trivial)⟩, ⟨mK BK470.out⟩, ⟨by repeat (first | (with_reducible first | exact HB.out | apply yO | apply yN | apply yP | refine yQ ?_ GE470.out) | exact HB.out)⟩⟩
            ·rw [if_neg c29] at H
             have c29b0 : decide (x10_4 < (l1.length : Int)) = false := decide_eq_false c29
             clear c29
             obtain ⟨c42, H⟩ := iP H
             have c42b0 : decide (0 ≤ x7_3) = true := zH c42
             clear c42
             obtain ⟨c43, H⟩ := iP H
             have c43b0 : decide (x7_3 < (l0_2.length : Int)) = true := zH c43
             clear c43
             obtain ⟨t495, A44, H⟩ := bE H
             obtain ⟨c45, H⟩ := iP H
             have c45b0 : decide (0 ≤ t495) = true := zH c45
             clear c45
             obtain ⟨c46, H⟩ := iP H
             have c46b0 : decide (t495 < ((rd_L1 l0_2 x7_3).length : Int)) = true := zH c46
             clear c46
             have H' := yA H
             clear H
             try go_wp2
             replace HO_9 := yA (yD HO_9.out)
             replace BK470 := yA (yT BK470.out)
             replace HB := yA (yP HB.out)
             have p494 : 0 ≤ (x7_3 : Int) := zG (by assumption)
             have q494 : x7_3 < (l0_2.length : Int) := zG (by assumption)
             obtain ⟨ad494, A494_0, c494_0, e494, hx494_0, hl494_0, hi494_0⟩ := at_L1 HR0_2.out x7_3 p494 q494
             have hw494_0 := hx494_0
             cases e494
             try replace hx494_0 := (HB.out.cell (zE w _ hx494_0)).trans hx494_0
             have HR494_0 := yA hi494_0
             have HC494_0 := yA hl494_0
             clear hi494_0 hl494_0
             replace p494 := eq_true p494
             replace q494 := eq_true q494
             obtain ⟨Ao48, co48, eo48⟩ := Kd.R_slice HO_9.out
             (first | subst eo48 | (injection eo48 with f1_ f2_ f3_; have f4_ := f1_.symm; have f5_ := f3_.symm; clear f1_ f2_ f3_; subst f4_; subst f5_))
             have p496 : 0 ≤ (t495 : Int) := zG (by assumption)
             have q496 : t495 < ((rd_L1 l0_2 x7_3).length : Int) := zG (by assumption)
             obtain ⟨ad496, e496, hx496_0⟩ := Kd.at_int HR494_0.out t495 p496 q496
             have hw496_0 := hx496_0
             cases e496
             try replace hx496_0 := (HB.out.cell (zE w _ hx496_0)).trans hx496_0
             replace p496 := eq_true p496
             replace q496 := eq_true q496
             refine start_ (n := 12) (S := fun w' => w'.cell? ⟨gb470, 0, none⟩ = some (.int .i64 a0_0) ∧ w'.cell? ⟨gb470, 1, none⟩ = some (.int .i64 a0_1) ∧ w'.cell? ⟨gb470, 2, none⟩ = some (.slice (some ad494) l0_2.length c0_2) ∧ w'.cell? ⟨gb470, 3, none⟩ = some (.slice A0_3 l0_3.length c0_3) ∧ w'.cell? (ad494.add (x7_3).toNat) = some (.slice (some ad496) (rd_L1 l0_2 x7_3).length c494_0) ∧ w'.cell? (ad496.add (t495).toNat) = some (.int .i64 (rd (rd_L1 l0_2 x7_3) t495))) (ds := []) #[false, false, false, false, false, false, false, false, false, false, false, false] (by kernel_rfl) rfl rfl ⟨(yV BK470.out 0).trans rfl, (yV BK470.out 1).trans rfl, (yV BK470.out 2).trans rfl, (yV BK470.out 3).trans rfl, ((HB.out.cell (zE w _ hw494_0)).trans hw494_0), ((HB.out.cell (zE w _ hw496_0)).trans hw496_0)⟩ (fun hHeld => ?_); refine with_tabW spec_Contains.tab19 spec_Contains.bits19 (fun HT_ HW_ => ?_)
             generalize wr.drew = w47 at HO_9 BK470 HB HR494_0 hx494_0 hx496_0 hHeld ⊢
             refine pure_ (i := 0) (N := some 79) (v := ?_) (a' := ?_) #[true, false, false, false, false, false, false, false, false, false, false, false] rfl rfl (any_of HT_.out (by kernel_rfl)) (fun _ _ _ h => h) (Or.inl ⟨by rfl, ?_⟩) ?_ ?_
             rotate_left
             ·intro w'
              go_simp
              with_reducible rfl
             rotate_left
             ·simp only [Act.put, zA, zB, zC, i64_w, i32_w]
              rfl
             refine pure_ (i := 2) (N := some 81) (v := ?_) (a' := ?_) #[true, false, true, false, false, false, false, false, false, false, false, false] rfl rfl (any_of HT_.out (by kernel_rfl)) (fun _ _ _ h => h) (Or.inl ⟨by rfl, ?_⟩) ?_ ?_
             rotate_left
             ·intro w'
              go_simp
              with_reducible rfl
             rotate_left
             ·simp only [Act.put, zA, zB, zC, i64_w, i32_w]
              rfl
             refine pure_ (i := 5) (N := some 84) (v := ?_) (a' := ?_) #[true, false, true, false, false, true, false, false, false, false, false, false] rfl rfl (any_of HT_.out (by kernel_rfl)) (fun _ _ _ h => h) (Or.inl ⟨by rfl, ?_⟩) ?_ ?_
             rotate_left
             ·intro w'
              go_simp
              with_reducible rfl
             rotate_left
             ·simp only [Act.put, zA, zB, zC, i64_w, i32_w]
              rfl
             refine pure_ (i := 7) (N := some 86) (v := ?_) (a' := ?_) #[true, false, true, false, false, true, false, true, false, false, false, false] rfl rfl (any_of HT_.out (by kernel_rfl)) (fun _ _ _ h => h) (Or.inl ⟨by rfl, ?_⟩) ?_ ?_
             rotate_left
             ·intro w'
              go_simp
              with_reducible rfl
             rotate_left
             ·simp only [Act.put, zA, zB, zC, i64_w, i32_w]
              rfl
             refine take_ (i := 1) (N := some 80) (v := ?_) (a' := ?_) #[true, true, true, false, false, true, false, true, false, false, false, false] rfl rfl (take_ofW HT_.out HW_.out (by kernel_rfl)) (fun _ _ _ h => h) (Or.inl ⟨by rfl, ?_⟩) hHeld ?_ ?_
             rotate_left
             ·rintro w' ⟨s0, s1, s2, s3, s4, s5⟩
              go_simp
              with_reducible rfl
             rotate_left
             ·simp only [Act.put, zA, zB, zC, i64_w, i32_w]
              rfl
             refine pure_ (i := 3) (N := some 82) (v := ?_) (a' := ?_) #[true, true, true, true, false, true, false, true, false, false, false, false] rfl rfl (any_of HT_.out (by kernel_rfl)) (fun _ _ _ h => h) (Or.inl ⟨by rfl, ?_⟩) ?_ ?_
             rotate_left
             ·intro w'
              go_simp
              with_reducible rfl
             rotate_left
             ·simp only [Act.put, zA, zB, zC, i64_w, i32_w]
              rfl
             refine take_ (i := 4) (N := some 83) (v := ?_) (a' := ?_) #[true, true, true, true, true, true, false, true, false, false, false, false] rfl rfl (take_ofW HT_.out HW_.out (by kernel_rfl)) (fun _ _ _ h => h) (Or.inl ⟨by rfl, ?_⟩) hHeld ?_ ?_
             rotate_left
             ·rintro w' ⟨s0, s1, s2, s3, s4, s5⟩
              go_simp
              with_reducible rfl
             rotate_left
             ·simp only [Act.put, zA, zB, zC, i64_w, i32_w]
              rfl
             refine take_ (i := 6) (N := some 85) (v := ?_) (a' := ?_) #[true, true, true, true, true, true, true, true, false, false, false, false] rfl rfl (take_ofW HT_.out HW_.out (by kernel_rfl)) (fun _ _ _ h => h) (Or.inl ⟨by rfl, ?_⟩) hHeld ?_ ?_
             rotate_left
             ·rintro w' ⟨s0, s1, s2, s3, s4, s5⟩
              go_simp
              with_reducible rfl
             rotate_left
             ·simp only [Act.put, zA, zB, zC, i64_w, i32_w]
              rfl
             refine one_ (i := 8) (N := some 87) #[true, true, true, true, true, true, true, true, true, false, false, false] rfl rfl (one_of HT_.out (by kernel_rfl)) (by decide) (fun K hK => ?_)
             refine goes_ Try.func70 (by kernel_rfl) rfl #[.int .i64 a0_0, .slice Ao48 x9_4.length co48] (by rfl) rfl rfl (by (try simp only [zI, zJ, zK]); first | done | rfl | (simp only [zL, zM]; rfl)) ?_
             with_reducible refine (spec_LetterOf.calls k4 a0_0 _ _ x9_4 t495 _ ?side1 ?side2 A44.out).mono ?_
             (case side1 => exact mC ((zN HO_9.out).2.2))
             (case side2 => exact (zN HO_9.out).2.1)
             rintro e w' ⟨rfl, ⟨nd, rfl⟩⟩
             refine ⟨_, rfl, ?_⟩
             refine hK.out _ _ ⟨(yV BK470.out 0).trans rfl, (yV BK470.out 1).trans rfl, (yV BK470.out 2).trans rfl, (yV BK470.out 3).trans rfl, ((HB.out.cell (zE w _ hw494_0)).trans hw494_0), ((HB.out.cell (zE w _ hw496_0)).trans hw496_0)⟩ (fun hHeld => ?_)
             clear hK K
             refine norm_ (a' := ?_) ?_ ?_
             rotate_left
             ·show Act.put _ (some 87) _ = _
              simp only [Act.put, zA, zB, zC, i64_w, i32_w]
              rfl
             refine pure_ (i := 9) (N := some 88) (v := ?_) (a' := ?_) #[true, true, true, true, true, true, true, true, true, true, false, false] rfl rfl (any_of HT_.out (by kernel_rfl)) (fun _ _ _ h => h) (Or.inl ⟨by rfl, ?_⟩) ?_ ?_
             rotate_left
             ·intro w'
              go_simp
              with_reducible rfl
             rotate_left
             ·simp only [Act.put, zA, zB, zC, i64_w, i32_w]
              rfl
             refine take_ (i := 10) (N := some 89) (v := ?_) (a' := ?_) #[true, true, true, true, true, true, true, true, true, true, true, false] rfl rfl (take_ofW HT_.out HW_.out (by kernel_rfl)) (fun _ _ _ h => h) (Or.inl ⟨by rfl, ?_⟩) hHeld ?_ ?_
             rotate_left
             ·rintro w' ⟨s0, s1, s2, s3, s4, s5⟩
              go_simp
              with_reducible rfl
             rotate_left
             ·simp only [Act.put, zA, zB, zC, i64_w, i32_w]
              rfl
             refine pure_ (i := 11) (N := some 7) (v := ?_) (a' := ?_) #[true, true, true, true, true, true, true, true, true, true, true, true] rfl rfl (any_of HT_.out (by kernel_rfl)) (fun _ _ _ h => h) (Or.inl ⟨by rfl, ?_⟩) ?_ ?_
             rotate_left
             ·intro w'
              go_simp
              with_reducible rfl
             rotate_left
             ·simp only [Act.put, zA, zB, zC, i64_w, i32_w]
              rfl
             refine done_ (done_of HT_.out (by kernel_rfl)) ?_
             try go_wp2
             go_roundg k4
             case measure => have := HJ2.out; have := HK2.out; have := HK3.out; have := HK4.out; omega
             case rel => exact ⟨(rd (rd_L1 l0_2 x7_3) t495), (wrap64 (x8_3 + 1)), (by first | rfl | (simp; done) | (simp [*]; done)), (by first | rfl | (simp; done) | (simp [*]; done)), H', ⟨by have := HJ2.out; have := HK2.out; have := HK3.out; have := HK4.out; omega⟩, ⟨mK BK470.out⟩, ⟨by repeat (first | (with_reducible first | exact HB.out | apply yO | apply yN | apply yP | refine yQ ?_ GE470.out) | exact HB.out)⟩⟩
         ·rw [if_neg c26] at H
          have c26b0 : decide (x8_3 < x5_2) = false := decide_eq_false c26
          clear c26
          obtain ⟨c49, H⟩ := iP H
          have c49b0 : decide (0 ≤ x7_3) = true := zH c49
          clear c49
          obtain ⟨c50, H⟩ := iP H
          have c50b0 : decide (x7_3 < (l0_3.length : Int)) = true := zH c50
          clear c50
          obtain rfl := zU H
          obtain ⟨hcz51_0, hcz51_1, hcz51_2, hcz51_3⟩ := cz4 BK470.out
          obtain ⟨hfz51_0, hfz51_1, hfz51_2, hfz51_3⟩ := fz4 BK470.out
          have p479 : 0 ≤ (x7_3 : Int) := zG (by assumption)
          have q479 : x7_3 < (l0_3.length : Int) := zG (by assumption)
          obtain ⟨ad479, e479, hx479_0⟩ := Kd.at_bool HR0_3.out x7_3 p479 q479
          cases e479
          try replace hx479_0 := (HB.out.cell (zE w _ hx479_0)).trans hx479_0
          replace p479 := eq_true p479
          replace q479 := eq_true q479
          go_wp2
          go_ret
          exact ⟨by first | rfl | (simp [errW_none, errW_some] <;> rfl) | (simp [*, errW_none, errW_some] <;> rfl), by repeat (first | (with_reducible first | exact HB.out | apply yO | apply yN | apply yP | refine yQ ?_ GE470.out) | exact HB.out)⟩

end Go.Proofs.Ytgopcliohchkmaa.Q
