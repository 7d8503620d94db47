-- written by a program of this session
-- squeezed
-- compact
-- shrunk
import Derived.Test.YtgopcliohchkmaaQ0
import Derived.Test.YtgopcliohchkmaaQ32
import Derived.Test.YtgopcliohchkmaaQ33
namespace Go.Proofs.Ytgopcliohchkmaa.Q
open Go.RowKit Go.Proofs.YtgopcliohchkmaaW.PrintWords Go.Proofs.YtgopcliohchkmaaW.PrintLast Go.Proofs.YtgopcliohchkmaaW.PrintMore
set_option linter.unusedVariables false
set_option linter.unusedSimpArgs false

/-! ### spec_l13Reduce: function 85 -/
mutual
def spec_l13Reduce.l0 : Nat → Int → Int → List (List Int) → List Bool → List (List Int) → Int → Option (Int × Int × (List (List Int)) × List Bool)
 | 0, _, _, _, _, _, _ => none
 | k + 1, x0, x1, x2, x3, x9, x10 => if x10 < (x3.length : Int) then (if 0 ≤ x10 then (if rdOf false x3 x10 = true then (if x9.length < 5864062014805 then (spec_l13Reduce.l0 k x0 x1 x2 x3 (x9 ++ [(([1] : List Int))]) (wrap64 (x10 + 1))) else (none)) else (if x9.length < 5864062014805 then (spec_l13Reduce.l0 k x0 x1 x2 x3 (x9 ++ [(([0] : List Int))]) (wrap64 (x10 + 1))) else (none))) else (none)) else ((spec_l4Number.f k x9).bind fun t269 => (spec_l13Reduce.l1 k x0 x1 x2 x3 t269 0))
def spec_l13Reduce.l1 : Nat → Int → Int → List (List Int) → List Bool → List Int → Int → Option (Int × Int × (List (List Int)) × List Bool)
 | 0, _, _, _, _, _, _ => none
 | k + 1, x0, x1, x2, x3, x11, x12 => if x12 < (x2.length : Int) then (spec_l13Reduce.l2 k x0 x1 x2 x3 (([] : List (List Int))) x11 x12 0) else (spec_l13Reduce.l4 k x2 x3 x11 (([0] : List Int)) 0 x0 x1 ([] : List (List Int)) ([] : List Bool))
def spec_l13Reduce.l2 : Nat → Int → Int → List (List Int) → List Bool → List (List Int) → List Int → Int → Int → Option (Int × Int × (List (List Int)) × List Bool)
 | 0, _, _, _, _, _, _, _, _ => none
 | k + 1, x0, x1, x2, x3, x9, x11, x12, x13 => if x13 < (x2.length : Int) then (if 0 ≤ x13 then (if x13 < (x11.length : Int) then (spec_l13Reduce.l3 k x0 x1 x2 x3 x9 x11 x12 x13 (([rd x11 x13] : List Int)) 0) else (none)) else (none)) else ((spec_l4Number.f k x9).bind fun t289 => ((spec_l3Same.f k t289 x11).bind fun t292 => (if t292 = true then (spec_l13Reduce.l1 k x0 x1 x2 x3 t289 (wrap64 ((x2.length : Int) + 1))) else (spec_l13Reduce.l1 k x0 x1 x2 x3 t289 (wrap64 (x12 + 1))))))
def spec_l13Reduce.l3 : Nat → Int → Int → List (List Int) → List Bool → List (List Int) → List Int → Int → Int → List Int → Int → Option (Int × Int × (List (List Int)) × List Bool)
 | 0, _, _, _, _, _, _, _, _, _, _ => none
 | k + 1, x0, x1, x2, x3, x9, x11, x12, x13, x14, x15 => if 0 ≤ x13 then (if x13 < (x2.length : Int) then (if x15 < ((rd_L1 x2 x13).length : Int) then (if 0 ≤ x15 then (if 0 ≤ (rd (rd_L1 x2 x13) x15) then (if (rd (rd_L1 x2 x13) x15) < (x11.length : Int) then (if x14.length < 17592186044416 then (spec_l13Reduce.l3 k x0 x1 x2 x3 x9 x11 x12 x13 (x14 ++ [rd x11 (rd (rd_L1 x2 x13) x15)]) (wrap64 (x15 + 1))) else (none)) else (none)) else (none)) else (none)) else (if x9.length < 5864062014805 then (spec_l13Reduce.l2 k x0 x1 x2 x3 (x9 ++ [x14]) x11 x12 (wrap64 (x13 + 1))) else (none))) else (none)) else (none)
def spec_l13Reduce.l4 : Nat → List (List Int) → List Bool → List Int → List Int → Int → Int → Int → List (List Int) → List Bool → Option (Int × Int × (List (List Int)) × List Bool)
 | 0, _, _, _, _, _, _, _, _, _ => none
 | k + 1, x2, x3, x11, x18, x19, x294000, x294001, x294002, x294003 => if x19 < (x18.length : Int) then (spec_l13Reduce.l5 k x2 x3 x11 x18 x19 (([] : List Int)) 0 x294000 x294001 x294002 x294003) else (some (x294000, x294001, x294002, x294003))
def spec_l13Reduce.l5 : Nat → List (List Int) → List Bool → List Int → List Int → Int → List Int → Int → Int → Int → List (List Int) → List Bool → Option (Int × Int × (List (List Int)) × List Bool)
 | 0, _, _, _, _, _, _, _, _, _, _, _ => none
 | k + 1, x2, x3, x11, x18, x19, x20, x21, x294000, x294001, x294002, x294003 => if 0 ≤ x19 then (if x19 < (x18.length : Int) then (if 0 ≤ (rd x18 x19) then (if (rd x18 x19) < (x2.length : Int) then (if x21 < ((rd_L1 x2 (rd x18 x19)).length : Int) then (if 0 ≤ x21 then (spec_l13Reduce.l6 k x2 x3 x11 x18 x19 x20 x21 (rd (rd_L1 x2 (rd x18 x19)) x21) (-1) 0 x294000 x294001 x294002 x294003) else (none)) else (if x294002.length < 5864062014805 then (if (rd x18 x19) < (x3.length : Int) then (if x294003.length < 140737488355328 then (spec_l13Reduce.l4 k x2 x3 x11 x18 (wrap64 (x19 + 1)) x294000 x294001 (x294002 ++ [x20]) (x294003 ++ [rdOf false x3 (rd x18 x19)])) else (none)) else (none)) else (none))) else (none)) else (none)) else (none)) else (none)
def spec_l13Reduce.l6 : Nat → List (List Int) → List Bool → List Int → List Int → Int → List Int → Int → Int → Int → Int → Int → Int → List (List Int) → List Bool → Option (Int × Int × (List (List Int)) × List Bool)
 | 0, _, _, _, _, _, _, _, _, _, _, _, _, _, _ => none
 | k + 1, x2, x3, x11, x18, x19, x20, x21, x22, x23, x24, x294000, x294001, x294002, x294003 => if x24 < (x18.length : Int) then (spec_l13Reduce.j7 k x2 x3 x11 x18 x19 x20 x21 x22 x23 x24 (decide (x23 < 0)) x294000 x294001 x294002 x294003) else (spec_l13Reduce.j7 k x2 x3 x11 x18 x19 x20 x21 x22 x23 x24 false x294000 x294001 x294002 x294003)
def spec_l13Reduce.j7 : Nat → List (List Int) → List Bool → List Int → List Int → Int → List Int → Int → Int → Int → Int → Bool → Int → Int → List (List Int) → List Bool → Option (Int × Int × (List (List Int)) × List Bool)
 | 0, _, _, _, _, _, _, _, _, _, _, _, _, _, _, _ => none
 | k + 1, x2, x3, x11, x18, x19, x20, x21, x22, x23, x24, x138, x294000, x294001, x294002, x294003 => if x138 = true then (if 0 ≤ x24 then (if x24 < (x18.length : Int) then (if 0 ≤ (rd x18 x24) then (if (rd x18 x24) < (x11.length : Int) then (if 0 ≤ x22 then (if x22 < (x11.length : Int) then (if (rd x11 (rd x18 x24)) = (rd x11 x22) then (spec_l13Reduce.l6 k x2 x3 x11 x18 x19 x20 x21 x22 x24 (wrap64 (x24 + 1)) x294000 x294001 x294002 x294003) else (spec_l13Reduce.l6 k x2 x3 x11 x18 x19 x20 x21 x22 x23 (wrap64 (x24 + 1)) x294000 x294001 x294002 x294003)) else (none)) else (none)) else (none)) else (none)) else (none)) else (none)) else (if x23 < 0 then (if x18.length < 17592186044416 then (if x20.length < 17592186044416 then (spec_l13Reduce.l5 k x2 x3 x11 (x18 ++ [x22]) x19 (x20 ++ [(x18.length : Int)]) (wrap64 (x21 + 1)) x294000 x294001 x294002 x294003) else (none)) else (none)) else (if x20.length < 17592186044416 then (spec_l13Reduce.l5 k x2 x3 x11 x18 x19 (x20 ++ [x23]) (wrap64 (x21 + 1)) x294000 x294001 x294002 x294003) else (none)))
end
def spec_l13Reduce.f (k : Nat) (a0 : Int) (a1 : Int) (l2 : List (List Int)) (l3 : List Bool) : Option (Int × Int × (List (List Int)) × List Bool) := spec_l13Reduce.l0 k a0 a1 l2 l3 (([] : List (List Int))) 0
theorem spec_l13Reduce.mono_l : ∀ k, (∀ y0 y1 y2 y3 y4 y5, LeO (spec_l13Reduce.l0 k y0 y1 y2 y3 y4 y5) (spec_l13Reduce.l0 (k + 1) y0 y1 y2 y3 y4 y5)) ∧ (∀ y0 y1 y2 y3 y4 y5, LeO (spec_l13Reduce.l1 k y0 y1 y2 y3 y4 y5) (spec_l13Reduce.l1 (k + 1) y0 y1 y2 y3 y4 y5)) ∧ (∀ y0 y1 y2 y3 y4 y5 y6 y7, LeO (spec_l13Reduce.l2 k y0 y1 y2 y3 y4 y5 y6 y7) (spec_l13Reduce.l2 (k + 1) y0 y1 y2 y3 y4 y5 y6 y7)) ∧ (∀ y0 y1 y2 y3 y4 y5 y6 y7 y8 y9, LeO (spec_l13Reduce.l3 k y0 y1 y2 y3 y4 y5 y6 y7 y8 y9) (spec_l13Reduce.l3 (k + 1) y0 y1 y2 y3 y4 y5 y6 y7 y8 y9)) ∧ (∀ y0 y1 y2 y3 y4 y5 y6 y7 y8, LeO (spec_l13Reduce.l4 k y0 y1 y2 y3 y4 y5 y6 y7 y8) (spec_l13Reduce.l4 (k + 1) y0 y1 y2 y3 y4 y5 y6 y7 y8)) ∧ (∀ y0 y1 y2 y3 y4 y5 y6 y7 y8 y9 y10, LeO (spec_l13Reduce.l5 k y0 y1 y2 y3 y4 y5 y6 y7 y8 y9 y10) (spec_l13Reduce.l5 (k + 1) y0 y1 y2 y3 y4 y5 y6 y7 y8 y9 y10)) ∧ (∀ y0 y1 y2 y3 y4 y5 y6 y7 y8 y9 y10 y11 y12 y13, LeO (spec_l13Reduce.l6 k y0 y1 y2 y3 y4 y5 y6 y7 y8 y9 y10 y11 y12 y13) (spec_l13Reduce.l6 (k + 1) y0 y1 y2 y3 y4 y5 y6 y7 y8 y9 y10 y11 y12 y13)) ∧ (∀ y0 y1 y2 y3 y4 y5 y6 y7 y8 y9 y10 y11 y12 y13 y14, LeO (spec_l13Reduce.j7 k y0 y1 y2 y3 y4 y5 y6 y7 y8 y9 y10 y11 y12 y13 y14) (spec_l13Reduce.j7 (k + 1) y0 y1 y2 y3 y4 y5 y6 y7 y8 y9 y10 y11 y12 y13 y14))
 | 0 => ⟨fun _ _ _ _ _ _ r h => by simp [spec_l13Reduce.l0] at h, fun _ _ _ _ _ _ r h => by simp [spec_l13Reduce.l1] at h, fun _ _ _ _ _ _ _ _ r h => by simp [spec_l13Reduce.l2] at h, fun _ _ _ _ _ _ _ _ _ _ r h => by simp [spec_l13Reduce.l3] at h, fun _ _ _ _ _ _ _ _ _ r h => by simp [spec_l13Reduce.l4] at h, fun _ _ _ _ _ _ _ _ _ _ _ r h => by simp [spec_l13Reduce.l5] at h, fun _ _ _ _ _ _ _ _ _ _ _ _ _ _ r h => by simp [spec_l13Reduce.l6] at h, fun _ _ _ _ _ _ _ _ _ _ _ _ _ _ _ r h => by simp [spec_l13Reduce.j7] at h⟩
 | k + 1 => by
  obtain ⟨ih0, ih1, ih2, ih3, ih4, ih5, ih6, ih7⟩ := spec_l13Reduce.mono_l k
  refine ⟨?_, ?_, ?_, ?_, ?_, ?_, ?_, ?_⟩ <;> intros <;> first | unfold spec_l13Reduce.l0 | unfold spec_l13Reduce.l1 | unfold spec_l13Reduce.l2 | unfold spec_l13Reduce.l3 | unfold spec_l13Reduce.l4 | unfold spec_l13Reduce.l5 | unfold spec_l13Reduce.l6 | unfold spec_l13Reduce.j7
  all_goals repeat' (with_reducible first | exact ih0 _ _ _ _ _ _ | exact ih1 _ _ _ _ _ _ | exact ih2 _ _ _ _ _ _ _ _ | exact ih3 _ _ _ _ _ _ _ _ _ _ | exact ih4 _ _ _ _ _ _ _ _ _ | exact ih5 _ _ _ _ _ _ _ _ _ _ _ | exact ih6 _ _ _ _ _ _ _ _ _ _ _ _ _ _ | exact ih7 _ _ _ _ _ _ _ _ _ _ _ _ _ _ _ | exact spec_l3Same.mono _ _ _ | exact spec_l4Number.mono _ _ | exact LeO.refl _ | exact LeO.none _ | refine LeO.ite ?_ ?_ | refine LeO.bind ?_ fun _ => ?_)
theorem spec_l13Reduce.mono : ∀ a0 a1 a2 a3 k, LeO (spec_l13Reduce.f k a0 a1 a2 a3) (spec_l13Reduce.f (k + 1) a0 a1 a2 a3) := by
 intro a0 a1 a2 a3 k
 obtain ⟨ih0, ih1, ih2, ih3, ih4, ih5, ih6, ih7⟩ := spec_l13Reduce.mono_l k
 unfold spec_l13Reduce.f
 repeat' (with_reducible first | exact ih0 _ _ _ _ _ _ | exact ih1 _ _ _ _ _ _ | exact ih2 _ _ _ _ _ _ _ _ | exact ih3 _ _ _ _ _ _ _ _ _ _ | exact ih4 _ _ _ _ _ _ _ _ _ | exact ih5 _ _ _ _ _ _ _ _ _ _ _ | exact ih6 _ _ _ _ _ _ _ _ _ _ _ _ _ _ | exact ih7 _ _ _ _ _ _ _ _ _ _ _ _ _ _ _ | exact spec_l3Same.mono _ _ _ | exact spec_l4Number.mono _ _ | exact LeO.refl _ | exact LeO.none _ | refine LeO.ite ?_ ?_ | refine LeO.bind ?_ fun _ => ?_)
def spec_l13Reduce.T40 : Bool × List (List Nat × List Nat) := (true, [([], []), ([], []), ([], []), ([1, 2], [1, 2]), ([3], [3]), ([0, 4], [0, 4]), ([5], [5]), ([], []), ([], []), ([7, 8], [7, 8]), ([9], [9]), ([6, 10], [6, 10])])
def spec_l13Reduce.B40 : List Nat := [0, 0, 0, 6, 14, 31, 63, 0, 0, 384, 896, 2047]
theorem spec_l13Reduce.tab40 : rtab .any (opsOf Try.f85 40) = spec_l13Reduce.T40 := by kernel_rfl
theorem spec_l13Reduce.bits40 : waitsOk spec_l13Reduce.T40.2 spec_l13Reduce.B40 = true := by kernel_rfl
def spec_l13Reduce.T47 : Bool × List (List Nat × List Nat) := (true, [([], []), ([0], [0]), ([], []), ([], []), ([], []), ([3, 4], [3, 4]), ([5], [5]), ([2, 6], [2, 6]), ([7], [7]), ([8], [8]), ([1, 9], [1, 9]), ([0, 1, 2, 3, 4, 5, 6, 7, 8, 9, 10], []), ([11, 10, 10, 0, 1, 2, 3, 4, 5, 6, 7, 8, 9, 10], [10, 11])])
def spec_l13Reduce.B47 : List Nat := [0, 1, 0, 0, 0, 24, 56, 124, 252, 508, 1023, 2047, 4095]
theorem spec_l13Reduce.tab47 : rtab .any (opsOf Try.f85 47) = spec_l13Reduce.T47 := by kernel_rfl
theorem spec_l13Reduce.bits47 : waitsOk spec_l13Reduce.T47.2 spec_l13Reduce.B47 = true := by kernel_rfl
set_option maxHeartbeats 8000000 in
set_option maxRecDepth 100000 in
theorem spec_l13Reduce.calls (k : Nat) (a0 : Int) (a1 : Int) (A2 : Option Addr) (c2 : Nat) (l2 : List (List Int)) (A3 : Option Addr) (c3 : Nat) (l3 : List Bool) (r1 : Int) (r2 : Int) (r3 : List (List Int)) (r4 : List Bool) (w : World) (hr2 : Kd.C (Kd.slice 3 (Kd.int .i64)) w A2 l2.length l2) (hc2 : l2.length ≤ c2) (hr3 : Kd.C Kd.bool w A3 l3.length l3) (hc3 : l3.length ≤ c3) (h : spec_l13Reduce.f k a0 a1 l2 l3 = some (r1, r2, r3, r4)) :
  Calls Try.prog 85 #[.int .i64 a0, .int .i64 a1, .slice A2 l2.length c2, .slice A3 l3.length c3] w fun e w' => ∃ v2_ v3_ : Value, e = .returned (.agg #[.int .i64 r1, .int .i64 r2, v2_, v3_]) ∧ Kd.S (Kd.slice 3 (Kd.int .i64)) 38 w' w.heap.size (fun _ => True) v2_ r3 ∧ Kd.R Kd.bool 4 w' w.heap.size (fun _ => True) v3_ r4 ∧ Below w.heap.size w w' := by
 have hu25 := Try.underlying25
 have HR2 := yA hr2
 have HC2 := yA hc2
 clear hr2 hc2
 have HR3 := yA hr3
 have HC3 := yA hc3
 clear hr3 hc3
 have HB := yA (zV w.heap.size w)
 have H : (spec_l13Reduce.l0 k a0 a1 l2 l3 (([] : List (List Int))) 0) = some (r1, r2, r3, r4) := h
 clear h
 (first | ((with_reducible replace H := bS H); obtain ⟨y253, Ny253, H⟩ := H) | (obtain ⟨y253, Ny253⟩ : ∃ y_ : List (List Int), y_ = (([] : List (List Int))) := ⟨_, rfl⟩; rw [← Ny253] at H; replace Ny253 := yA Ny253))
 have H' := yA H
 clear H
 go_enter Try.func85, Try.ntmps85
 go_wp2_with (first | ((with_reducible refine gate_dst (N := 8) rfl ?_); refine box_event ?hg (N := 8) ?hd (cs := #[.int .i64 0, .int .i64 0, .slice none 0 0, .slice none 0 0]) (t := 25) ?hr ?_; (case hd => rfl); (case hg => rfl); (case hr => first | (go_simp; done) | (go_simp; rfl)); intro gb252 hg w5 hbox hb; have BK252 := yA (hbox); have GW252 := yA ((by rw [hg]; exact (yX (mB HB.out)) : w.heap.size ≤ gb252)); have GE252 := yA ((by rw [hg]; exact (yX (mB HB.out)) : w.heap.size ≤ gb252)); replace HB := yA (zD (mB HB.out) hb); clear hb hbox hg) | ((with_reducible refine gate_dst (N := 25) rfl ?_); refine Kd.S_lit (Kd.slice 3 (Kd.int .i64)) _ 38 ?hg (N := 25) ?hd (xs := ([] : List (List Int))) (inner := []) (ok := fun _ => True) (okp := fun _ => True) ?hr ?hp (fun _ hk => hk) trivial (zV _ _) (zT _) (by simp) ?_; (case hd => rfl); (case hg => rfl); (case hr => first | (go_simp; done) | (go_simp; rfl)); (case hp => exact (Reps.none _ _)); intro v254 w6 ho7 hb hg_ hnew_; clear hg_ hnew_; (first | rw [← Ny253.out] at ho7 | (simp only [Int.reduceToNat] at ho7; rw [← Ny253.out] at ho7)); have HO255 := yA (Kd.S_lower ho7 (yX (by with_reducible repeat first | exact HB.out | apply yO | apply yN | apply yP | refine yQ ?_ GE252.out))); replace BK252 := yA (yU (mK BK252.out) hb); replace HB := yA (zD (by with_reducible repeat first | exact HB.out | apply yO | apply yN | apply yP | refine yQ ?_ GE252.out) hb); clear hb ho7))
 go_loopg [9, 10] k (fun kq v9 v10 w' => ∃ (x9_1 : List (List Int)) (x10_1 : Int), v10 = .int .i64 x10_1 ∧ Aside0 (spec_l13Reduce.l0 kq a0 a1 l2 l3 x9_1 x10_1 = some (r1, r2, r3, r4)) ∧ Aside0 (kq ≤ k) ∧ Aside0 (Kd.S (Kd.slice 3 (Kd.int .i64)) 38 w' w.heap.size (fun _ => True) v9 x9_1) ∧ Aside0 (w'.heap[gb252]? = some (.cells #[.int .i64 0, .int .i64 0, (.slice none 0 0), (.slice none 0 0)] 25 (0, 0))) ∧ Aside0 (Below w.heap.size w w'))
 case atStart => exact ⟨(y253), (0), (by first | rfl | (simp; done) | (simp [*]; done)), H', ⟨zT _⟩, ⟨mS HO255.out⟩, ⟨mK BK252.out⟩, ⟨by repeat (first | (with_reducible first | exact HB.out | apply yO | apply yN | apply yP | refine yQ ?_ GE252.out) | exact HB.out)⟩⟩
 case round =>
  clear H'
  (try clear c2);(try clear p2);(try clear c3)
  obtain ⟨x9_1, x10_1, rfl, HA, HK1, HO_9, BK252, HB⟩ := hrel
  cases gk with
  | zero => exact absurd HA.out (by simp [spec_l13Reduce.l0])
  | succ k1 =>
   have H := HA.out
   clear HA
   simp only [spec_l13Reduce.l0] at H
   by_cases c8 : x10_1 < (l3.length : Int)
   ·rw [if_pos c8] at H
    have c8b0 : decide (x10_1 < (l3.length : Int)) = true := zH c8
    clear c8
    obtain ⟨c9, H⟩ := iP H
    have c9b0 : decide (0 ≤ x10_1) = true := zH c9
    clear c9
    obtain ⟨bq10, hbq10⟩ : ∃ b_ : Bool, b_ = (rdOf false l3 x10_1) := ⟨_, rfl⟩
    replace H : (if bq10 = true then (if x9_1.length < 5864062014805 then (spec_l13Reduce.l0 k1 a0 a1 l2 l3 (x9_1 ++ [(([1] : List Int))]) (wrap64 (x10_1 + 1))) else (none)) else (if x9_1.length < 5864062014805 then (spec_l13Reduce.l0 k1 a0 a1 l2 l3 (x9_1 ++ [(([0] : List Int))]) (wrap64 (x10_1 + 1))) else (none))) = some (r1, r2, r3, r4) := by rw [← hbq10] at H; exact H
    have Nbq10 := yA hbq10
    clear hbq10
    by_cases c11 : bq10 = true
    ·subst c11
     replace H := iT H
     (first | ((with_reducible replace H := bS H); obtain ⟨y257, Ny257, H⟩ := H) | (obtain ⟨y257, Ny257⟩ : ∃ y_ : List Int, y_ = (([1] : List Int)) := ⟨_, rfl⟩; rw [← Ny257] at H; replace Ny257 := yA Ny257))
     obtain ⟨c12, H⟩ := iP H
     have LMc12 := yA c12
     clear c12
     (first | ((with_reducible replace H := bS H); obtain ⟨y260, Ny260, H⟩ := H) | (obtain ⟨y260, Ny260⟩ : ∃ y_ : List (List Int), y_ = (x9_1 ++ [y257]) := ⟨_, rfl⟩; rw [← Ny260] at H; replace Ny260 := yA Ny260))
     have H' := yA H
     clear H
     have p256 : 0 ≤ (x10_1 : Int) := zG (by assumption)
     have q256 : x10_1 < (l3.length : Int) := zG (by assumption)
     obtain ⟨ad256, e256, hx256_0⟩ := Kd.at_bool HR3.out x10_1 p256 q256
     (try rw [← Nbq10.out] at hx256_0)
     cases e256
     try replace hx256_0 := (HB.out.cell (zE w _ hx256_0)).trans hx256_0
     replace p256 := eq_true p256
     replace q256 := eq_true q256
     go_wp2_with (first | ((with_reducible refine gate_dst (N := 37) rfl ?_); refine Kd.R_lit (Kd.int .i64) _ 3 ?hg (N := 37) ?hd (xs := ([1] : List Int)) (inner := [.int .i64 1]) (ok := fun _ => True) (okp := fun _ => True) ?hr ?hp (fun _ hk => hk) trivial (zV _ _) (zT _) (by simp) ?_; (case hd => rfl); (case hg => rfl); (case hr => first | (go_simp; done) | (go_simp; rfl)); (case hp => exact (Reps.one (show Kd.M (Kd.int .i64) _ _ _ 1 [.int .i64 1] from rfl) (Reps.none _ _))); intro v258 w13 ho14 hb hg_ hnew_; clear hg_ hnew_; (first | rw [← Ny257.out] at ho14 | (simp only [Int.reduceToNat] at ho14; rw [← Ny257.out] at ho14)); replace HO_9 := yA (Kd.S_elder' (mS HO_9.out) (yY ho14) hb); have HO259 := yA (Kd.R_lower ho14 (yX (by with_reducible repeat first | exact HB.out | apply yO | apply yN | apply yP | refine yQ ?_ GE252.out))); replace BK252 := yA (yU (mK BK252.out) hb); replace HB := yA (zD (by with_reducible repeat first | exact HB.out | apply yO | apply yN | apply yP | refine yQ ?_ GE252.out) hb); clear hb ho14; obtain ⟨Ao16, co16, eo16⟩ := Kd.R_slice HO259.out; subst eo16) | ((with_reducible refine gate_builtin (b := .append) (xs := #[.tmp 36, .tmp 38]) rfl ?_); at_builtin; refine Kd.S_append (Kd.slice 3 (Kd.int .i64)) (w0 := w) w.heap.size rfl (.tmp 36) (.tmp 38) 22 38 (.slice none 0 0) 24 rfl Try.underlying22 info38 rfl (by decide) (by omega) u9 x9_1 y257 [.slice Ao16 y257.length co16] (fun _ => True) (fun k_ => some k_ = (.slice Ao16 y257.length co16 : Value).ownBlock) rfl rfl ?aP (fun k_ hk_ => ((zP (ok' := fun k_ => ((fun _ => True)) k_ ∧ some k_ ≠ (u9 : Value).ownBlock) (Kd.R_apart' (HO259.out) (Kd.S_typed HO_9.out) (by decide)) (fun k_ hk => ⟨trivial, hk.2⟩))).1 k_ hk_.symm) ?aF ?aO ?aB ?aS ?aL ?_; (case aP => exact Kd.M_row (zP (Kd.R_tight rfl (zP (ok' := fun k_ => ((fun _ => True)) k_ ∧ some k_ ≠ (u9 : Value).ownBlock) (Kd.R_apart' (HO259.out) (Kd.S_typed HO_9.out) (by decide)) (fun k_ hk => ⟨trivial, hk.2⟩))) (fun _ h_ => h_))); (case aB => exact (by with_reducible repeat first | exact HB.out | apply yO | apply yN | apply yP | refine yQ ?_ GE252.out)); (case aF => exact (fun _ _ => trivial)); (case aO => exact (mS (Kd.S_mono HO_9.out (fun k_ hk => ⟨trivial, fun e_ => hk.2 e_⟩)))); (case aS => exact (yX (by with_reducible repeat first | exact HB.out | apply yO | apply yN | apply yP | refine yQ ?_ GE252.out))); (case aL => have := LMc12.out; omega); intro v261 w15 ho hb hg hat; rw [← Ny260.out] at ho; replace BK252 := yA (blk_grown (g := gb252) (o := .cells #[.int .i64 0, .int .i64 0, .slice none 0 0, .slice none 0 0] 25 (0, 0)) (mK BK252.out) hg (Kd.S_ne HO_9.out BK252.out (by decide))); replace HB := yA (hb); have HO262 := yA (ho); clear HO_9 HO259; clear ho hb hg hat))
     go_roundg k1
     case measure => have := HK1.out; omega
     case rel => exact ⟨(y260), (wrap64 (x10_1 + 1)), (by first | rfl | (simp; done) | (simp [*]; done)), H', ⟨by have := HK1.out; omega⟩, ⟨mS HO262.out⟩, ⟨mK BK252.out⟩, ⟨by repeat (first | (with_reducible first | exact HB.out | apply yO | apply yN | apply yP | refine yQ ?_ GE252.out) | exact HB.out)⟩⟩
    ·replace c11 := Bool.eq_false_iff.mpr c11
     subst c11
     replace H := iF H
     (first | ((with_reducible replace H := bS H); obtain ⟨y263, Ny263, H⟩ := H) | (obtain ⟨y263, Ny263⟩ : ∃ y_ : List Int, y_ = (([0] : List Int)) := ⟨_, rfl⟩; rw [← Ny263] at H; replace Ny263 := yA Ny263))
     obtain ⟨c17, H⟩ := iP H
     have LMc17 := yA c17
     clear c17
     (first | ((with_reducible replace H := bS H); obtain ⟨y266, Ny266, H⟩ := H) | (obtain ⟨y266, Ny266⟩ : ∃ y_ : List (List Int), y_ = (x9_1 ++ [y263]) := ⟨_, rfl⟩; rw [← Ny266] at H; replace Ny266 := yA Ny266))
     have H' := yA H
     clear H
     have p256 : 0 ≤ (x10_1 : Int) := zG (by assumption)
     have q256 : x10_1 < (l3.length : Int) := zG (by assumption)
     obtain ⟨ad256, e256, hx256_0⟩ := Kd.at_bool HR3.out x10_1 p256 q256
     (try rw [← Nbq10.out] at hx256_0)
     cases e256
     try replace hx256_0 := (HB.out.cell (zE w _ hx256_0)).trans hx256_0
     replace p256 := eq_true p256
     replace q256 := eq_true q256
     go_wp2_with (first | ((with_reducible refine gate_dst (N := 41) rfl ?_); refine Kd.R_lit (Kd.int .i64) _ 3 ?hg (N := 41) ?hd (xs := ([0] : List Int)) (inner := [.int .i64 0]) (ok := fun _ => True) (okp := fun _ => True) ?hr ?hp (fun _ hk => hk) trivial (zV _ _) (zT _) (by simp) ?_; (case hd => rfl); (case hg => rfl); (case hr => first | (go_simp; done) | (go_simp; rfl)); (case hp => exact (Reps.one (show Kd.M (Kd.int .i64) _ _ _ 0 [.int .i64 0] from rfl) (Reps.none _ _))); intro v264 w18 ho19 hb hg_ hnew_; clear hg_ hnew_; (first | rw [← Ny263.out] at ho19 | (simp only [Int.reduceToNat] at ho19; rw [← Ny263.out] at ho19)); replace HO_9 := yA (Kd.S_elder' (mS HO_9.out) (yY ho19) hb); have HO265 := yA (Kd.R_lower ho19 (yX (by with_reducible repeat first | exact HB.out | apply yO | apply yN | apply yP | refine yQ ?_ GE252.out))); replace BK252 := yA (yU (mK BK252.out) hb); replace HB := yA (zD (by with_reducible repeat first | exact HB.out | apply yO | apply yN | apply yP | refine yQ ?_ GE252.out) hb); clear hb ho19; obtain ⟨Ao21, co21, eo21⟩ := Kd.R_slice HO265.out; subst eo21) | ((with_reducible refine gate_builtin (b := .append) (xs := #[.tmp 40, .tmp 42]) rfl ?_); at_builtin; refine Kd.S_append (Kd.slice 3 (Kd.int .i64)) (w0 := w) w.heap.size rfl (.tmp 40) (.tmp 42) 22 38 (.slice none 0 0) 24 rfl Try.underlying22 info38 rfl (by decide) (by omega) u9 x9_1 y263 [.slice Ao21 y263.length co21] (fun _ => True) (fun k_ => some k_ = (.slice Ao21 y263.length co21 : Value).ownBlock) rfl rfl ?aP (fun k_ hk_ => ((zP (ok' := fun k_ => ((fun _ => True)) k_ ∧ some k_ ≠ (u9 : Value).ownBlock) (Kd.R_apart' (HO265.out) (Kd.S_typed HO_9.out) (by decide)) (fun k_ hk => ⟨trivial, hk.2⟩))).1 k_ hk_.symm) ?aF ?aO ?aB ?aS ?aL ?_; (case aP => exact Kd.M_row (zP (Kd.R_tight rfl (zP (ok' := fun k_ => ((fun _ => True)) k_ ∧ some k_ ≠ (u9 : Value).ownBlock) (Kd.R_apart' (HO265.out) (Kd.S_typed HO_9.out) (by decide)) (fun k_ hk => ⟨trivial, hk.2⟩))) (fun _ h_ => h_))); (case aB => exact (by with_reducible repeat first | exact HB.out | apply yO | apply yN | apply yP | refine yQ ?_ GE252.out)); (case aF => exact (fun _ _ => trivial)); (case aO => exact (mS (Kd.S_mono HO_9.out (fun k_ hk => ⟨trivial, fun e_ => hk.2 e_⟩)))); (case aS => exact (yX (by with_reducible repeat first | exact HB.out | apply yO | apply yN | apply yP | refine yQ ?_ GE252.out))); (case aL => have := LMc17.out; omega); intro v267 w20 ho hb hg hat; rw [← Ny266.out] at ho; replace BK252 := yA (blk_grown (g := gb252) (o := .cells #[.int .i64 0, .int .i64 0, .slice none 0 0, .slice none 0 0] 25 (0, 0)) (mK BK252.out) hg (Kd.S_ne HO_9.out BK252.out (by decide))); replace HB := yA (hb); have HO268 := yA (ho); clear HO_9 HO265; clear ho hb hg hat))
     go_roundg k1
     case measure => have := HK1.out; omega
     case rel => exact ⟨(y266), (wrap64 (x10_1 + 1)), (by first | rfl | (simp; done) | (simp [*]; done)), H', ⟨by have := HK1.out; omega⟩, ⟨mS HO268.out⟩, ⟨mK BK252.out⟩, ⟨by repeat (first | (with_reducible first | exact HB.out | apply yO | apply yN | apply yP | refine yQ ?_ GE252.out) | exact HB.out)⟩⟩
   ·rw [if_neg c8] at H
    have c8b0 : decide (x10_1 < (l3.length : Int)) = false := decide_eq_false c8
    clear c8
    obtain ⟨t269, A22, H⟩ := bE H
    have H' := yA H
    clear H
    obtain ⟨Ao23, co23, eo23⟩ := Kd.S_slice HO_9.out
    subst eo23
    go_wp2_with (first | ((with_reducible refine zS (f := 104) rfl ?_); refine goesL_ (some 45) rfl rfl Try.func104 (by kernel_rfl) rfl #[.slice Ao23 x9_1.length co23] rfl (by (try simp only [zI, zJ, zK]); first | done | rfl | (simp only [zL, zM]; rfl)) ?_; (with_reducible refine (spec_l4Number.calls k1 _ _ x9_1 t269 _ ?side1 ?side2 A22.out).mono ?_); (case side1 => exact mC ((Kd.S_reads' HO_9.out).2.2)); (case side2 => exact (Kd.S_reads' HO_9.out).2.1); rintro e w24 ⟨v270, rfl, ho0, hb⟩; refine ⟨_, rfl, ?_⟩; replace HO_9 := yA (Kd.S_elder' (mS HO_9.out) (yY ho0) hb); have HO271 := yA (Kd.R_lower ho0 (yX (by with_reducible repeat first | exact HB.out | apply yO | apply yN | apply yP | refine yQ ?_ GE252.out))); replace BK252 := yA (yU (mK BK252.out) hb); replace HB := yA (zD (by with_reducible repeat first | exact HB.out | apply yO | apply yN | apply yP | refine yQ ?_ GE252.out) hb); (try clear hb); (try clear hb2); (try clear hk); (try clear hi); (try clear ho0)))
    go_loopg [11, 12] k1 (fun kq v11 v12 w' => ∃ (x11_2 : List Int) (x12_2 : Int), v12 = .int .i64 x12_2 ∧ Aside0 (spec_l13Reduce.l1 kq a0 a1 l2 l3 x11_2 x12_2 = some (r1, r2, r3, r4)) ∧ Aside0 (kq ≤ k1) ∧ Aside0 (Kd.R (Kd.int .i64) 3 w' w.heap.size (fun _ => True) v11 x11_2) ∧ Aside0 (w'.heap[gb252]? = some (.cells #[.int .i64 0, .int .i64 0, (.slice none 0 0), (.slice none 0 0)] 25 (0, 0))) ∧ Aside0 (Below w.heap.size w w'))
    case atStart => exact ⟨(t269), (0), (by first | rfl | (simp; done) | (simp [*]; done)), H', ⟨zT _⟩, ⟨mR HO271.out⟩, ⟨mK BK252.out⟩, ⟨by repeat (first | (with_reducible first | exact HB.out | apply yO | apply yN | apply yP | refine yQ ?_ GE252.out) | exact HB.out)⟩⟩
    case round =>
     clear H'
     (try clear c1);(try clear q1);(try clear c2);(try clear p2);(try clear q2);(try clear hx2);(try clear c3);(try clear p6);(try clear c8);(try clear c8b0);(try clear c9);(try clear c9b0);(try clear c10);(try clear q10);(try clear c11);(try clear c12);(try clear c17);(try clear hx256_0);(try clear p2);(try clear p256);(try clear q256)
     obtain ⟨x11_2, x12_2, rfl, HA, HK2, HO_11, BK252, HB⟩ := hrel
     cases gk with
     | zero => exact absurd HA.out (by simp [spec_l13Reduce.l1])
     | succ k2 =>
      have H := HA.out
      clear HA
      simp only [spec_l13Reduce.l1] at H
      by_cases c25 : x12_2 < (l2.length : Int)
      ·rw [if_pos c25] at H
       have c25b0 : decide (x12_2 < (l2.length : Int)) = true := zH c25
       clear c25
       (first | ((with_reducible replace H := bS H); obtain ⟨y272, Ny272, H⟩ := H) | (obtain ⟨y272, Ny272⟩ : ∃ y_ : List (List Int), y_ = (([] : List (List Int))) := ⟨_, rfl⟩; rw [← Ny272] at H; replace Ny272 := yA Ny272))
       have H' := yA H
       clear H
       go_wp2_with (first | ((with_reducible refine gate_dst (N := 52) rfl ?_); refine Kd.S_lit (Kd.slice 3 (Kd.int .i64)) _ 38 ?hg (N := 52) ?hd (xs := ([] : List (List Int))) (inner := []) (ok := fun _ => True) (okp := fun _ => True) ?hr ?hp (fun _ hk => hk) trivial (zV _ _) (zT _) (by simp) ?_; (case hd => rfl); (case hg => rfl); (case hr => first | (go_simp; done) | (go_simp; rfl)); (case hp => exact (Reps.none _ _)); intro v273 w26 ho27 hb hg_ hnew_; clear hg_ hnew_; (first | rw [← Ny272.out] at ho27 | (simp only [Int.reduceToNat] at ho27; rw [← Ny272.out] at ho27)); have HO274 := yA (Kd.S_lower (Kd.S_new' ho27 (yZ (mR HO_11.out))) (yX (by with_reducible repeat first | exact HB.out | apply yO | apply yN | apply yP | refine yQ ?_ GE252.out))); replace HO_11 := yA (yK (mR HO_11.out) hb); replace BK252 := yA (yU (mK BK252.out) hb); replace HB := yA (zD (by with_reducible repeat first | exact HB.out | apply yO | apply yN | apply yP | refine yQ ?_ GE252.out) hb); clear hb ho27))
       go_loopg [9, 13] k2 (fun kq v9 v13 w' => ∃ (x9_3 : List (List Int)) (x13_3 : Int), v13 = .int .i64 x13_3 ∧ Aside0 (spec_l13Reduce.l2 kq a0 a1 l2 l3 x9_3 x11_2 x12_2 x13_3 = some (r1, r2, r3, r4)) ∧ Aside0 (kq ≤ k2) ∧ Aside0 (Kd.S (Kd.slice 3 (Kd.int .i64)) 38 w' w.heap.size (fun k_ => some k_ ≠ (u11 : Value).ownBlock) v9 x9_3) ∧ Aside0 (Kd.R (Kd.int .i64) 3 w' w.heap.size (fun _ => True) u11 x11_2) ∧ Aside0 (w'.heap[gb252]? = some (.cells #[.int .i64 0, .int .i64 0, (.slice none 0 0), (.slice none 0 0)] 25 (0, 0))) ∧ Aside0 (Below w.heap.size w w'))
       case atStart => exact ⟨(y272), (0), (by first | rfl | (simp; done) | (simp [*]; done)), H', ⟨zT _⟩, ⟨by (with_reducible repeat (first | apply yH | apply yI | apply yJ)); exact Kd.S_mono HO274.out (fun _ hk => hk.2)⟩, ⟨mR HO_11.out⟩, ⟨mK BK252.out⟩, ⟨by repeat (first | (with_reducible first | exact HB.out | apply yO | apply yN | apply yP | refine yQ ?_ GE252.out) | exact HB.out)⟩⟩
       case round =>
        clear H'
        (try clear c1);(try clear q1);(try clear c2);(try clear p2);(try clear q2);(try clear hx2);(try clear c3);(try clear p6);(try clear c8);(try clear c8b0);(try clear c9);(try clear c9b0);(try clear c10);(try clear q10);(try clear c11);(try clear c12);(try clear c17);(try clear c25);(try clear c25b0);(try clear p25);(try clear q25);(try clear hx25);(try clear hx256_0);(try clear p2);(try clear p256);(try clear p6);(try clear q1);(try clear q10);(try clear q2);(try clear q256)
        obtain ⟨x9_3, x13_3, rfl, HA, HK3, HO_9, HO_11, BK252, HB⟩ := hrel
        cases gk with
        | zero => exact absurd HA.out (by simp [spec_l13Reduce.l2])
        | succ k3 =>
         have H := HA.out
         clear HA
         simp only [spec_l13Reduce.l2] at H
         by_cases c28 : x13_3 < (l2.length : Int)
         ·rw [if_pos c28] at H
          have c28b0 : decide (x13_3 < (l2.length : Int)) = true := zH c28
          clear c28
          obtain ⟨c29, H⟩ := iP H
          have c29b0 : decide (0 ≤ x13_3) = true := zH c29
          clear c29
          obtain ⟨c30, H⟩ := iP H
          have c30b0 : decide (x13_3 < (x11_2.length : Int)) = true := zH c30
          clear c30
          (first | ((with_reducible replace H := bS H); obtain ⟨y276, Ny276, H⟩ := H) | (obtain ⟨y276, Ny276⟩ : ∃ y_ : List Int, y_ = (([rd x11_2 x13_3] : List Int)) := ⟨_, rfl⟩; rw [← Ny276] at H; replace Ny276 := yA Ny276))
          have H' := yA H
          clear H
          obtain ⟨Ao31, co31, eo31⟩ := Kd.R_slice HO_11.out
          subst eo31
          have p275 : 0 ≤ (x13_3 : Int) := zG (by assumption)
          have q275 : x13_3 < (x11_2.length : Int) := zG (by assumption)
          obtain ⟨ad275, e275, hx275_0⟩ := Kd.at_int (zN HO_11.out).2.2 x13_3 p275 q275
          cases e275
          replace p275 := eq_true p275
          replace q275 := eq_true q275
          go_wp2_with (first | ((with_reducible refine gate_dst (N := 63) rfl ?_); refine Kd.R_lit (Kd.int .i64) _ 3 ?hg (N := 63) ?hd (xs := ([rd x11_2 x13_3] : List Int)) (inner := [.int .i64 (rd x11_2 x13_3)]) (ok := fun _ => True) (okp := fun _ => True) ?hr ?hp (fun _ hk => hk) trivial (zV _ _) (zT _) (by simp) ?_; (case hd => rfl); (case hg => rfl); (case hr => first | (go_simp; done) | (go_simp; rfl)); (case hp => exact (Reps.one (show Kd.M (Kd.int .i64) _ _ _ (rd x11_2 x13_3) [.int .i64 (rd x11_2 x13_3)] from rfl) (Reps.none _ _))); intro v277 w32 ho33 hb hg_ hnew_; clear hg_ hnew_; (first | rw [← Ny276.out] at ho33 | (simp only [Int.reduceToNat] at ho33; rw [← Ny276.out] at ho33)); replace HO_9 := yA (Kd.S_elder' (mS HO_9.out) (yY ho33) hb); have HO278 := yA (Kd.R_lower (Kd.R_new' ho33 (yZ (mR HO_11.out))) (yX (by with_reducible repeat first | exact HB.out | apply yO | apply yN | apply yP | refine yQ ?_ GE252.out))); replace HO_11 := yA (zO (mR HO_11.out) (yY ho33) hb); replace BK252 := yA (yU (mK BK252.out) hb); replace HB := yA (zD (by with_reducible repeat first | exact HB.out | apply yO | apply yN | apply yP | refine yQ ?_ GE252.out) hb); clear hb ho33))
          go_loopg [14, 15] k3 (fun kq v14 v15 w' => ∃ (x14_4 : List Int) (x15_4 : Int), v15 = .int .i64 x15_4 ∧ Aside0 (spec_l13Reduce.l3 kq a0 a1 l2 l3 x9_3 x11_2 x12_2 x13_3 x14_4 x15_4 = some (r1, r2, r3, r4)) ∧ Aside0 (kq ≤ k3) ∧ Aside0 (Kd.S (Kd.slice 3 (Kd.int .i64)) 38 w' w.heap.size (fun k_ => some k_ ≠ ((.slice (some ad275) x11_2.length co31) : Value).ownBlock ∧ some k_ ≠ (v14 : Value).ownBlock) u9 x9_3) ∧ Aside0 (Kd.R (Kd.int .i64) 3 w' w.heap.size (fun k_ => some k_ ≠ (v14 : Value).ownBlock) (.slice (some ad275) x11_2.length co31) x11_2) ∧ Aside0 (Kd.R (Kd.int .i64) 3 w' w.heap.size (fun k_ => some k_ ≠ ((.slice (some ad275) x11_2.length co31) : Value).ownBlock) v14 x14_4) ∧ Aside0 (w'.heap[gb252]? = some (.cells #[.int .i64 0, .int .i64 0, (.slice none 0 0), (.slice none 0 0)] 25 (0, 0))) ∧ Aside0 (Below w.heap.size w w'))
          case atStart => exact ⟨(y276), (0), (by first | rfl | (simp; done) | (simp [*]; done)), H', ⟨zT _⟩, ⟨mS HO_9.out⟩, ⟨by (with_reducible repeat (first | apply yB | apply yC | apply yD)); exact zP HO_11.out (fun _ hk => hk.2)⟩, ⟨by (with_reducible repeat (first | apply yB | apply yC | apply yD)); exact zP HO278.out (fun _ hk => hk.2)⟩, ⟨mK BK252.out⟩, ⟨by repeat (first | (with_reducible first | exact HB.out | apply yO | apply yN | apply yP | refine yQ ?_ GE252.out) | exact HB.out)⟩⟩
          case round =>
           clear H'
           (try clear c1);(try clear q1);(try clear c2);(try clear p2);(try clear q2);(try clear hx2);(try clear c3);(try clear p6);(try clear c8);(try clear c8b0);(try clear c9);(try clear c9b0);(try clear c10);(try clear q10);(try clear c11);(try clear c12);(try clear c17);(try clear c25);(try clear c25b0);(try clear p25);(try clear q25);(try clear hx25);(try clear p27);(try clear q27);(try clear hx27);(try clear c28);(try clear c28b0);(try clear c29);(try clear c29b0);(try clear c30);(try clear c30b0);(try clear hx256_0);(try clear hx275_0);(try clear p2);(try clear p25);(try clear p256);(try clear p275);(try clear p6);(try clear q1);(try clear q10);(try clear q2);(try clear q25);(try clear q256);(try clear q275)
           obtain ⟨x14_4, x15_4, rfl, HA, HK4, HO_9, HO_11, HO_14, BK252, HB⟩ := hrel
           cases gk with
           | zero => exact absurd HA.out (by simp [spec_l13Reduce.l3])
           | succ k4 =>
            have H := HA.out
            clear HA
            simp only [spec_l13Reduce.l3] at H
            obtain ⟨c34, H⟩ := iP H
            have c34b0 : decide (0 ≤ x13_3) = true := zH c34
            clear c34
            obtain ⟨c35, H⟩ := iP H
            have c35b0 : decide (x13_3 < (l2.length : Int)) = true := zH c35
            clear c35
            by_cases c36 : x15_4 < ((rd_L1 l2 x13_3).length : Int)
            ·rw [if_pos c36] at H
             have c36b0 : decide (x15_4 < ((rd_L1 l2 x13_3).length : Int)) = true := zH c36
             clear c36
             obtain ⟨c37, H⟩ := iP H
             have c37b0 : decide (0 ≤ x15_4) = true := zH c37
             clear c37
             obtain ⟨c38, H⟩ := iP H
             have c38b0 : decide (0 ≤ (rd (rd_L1 l2 x13_3) x15_4)) = true := zH c38
             clear c38
             obtain ⟨c39, H⟩ := iP H
             have c39b0 : decide ((rd (rd_L1 l2 x13_3) x15_4) < (x11_2.length : Int)) = true := zH c39
             clear c39
             obtain ⟨c40, H⟩ := iP H
             have LMc40 := yA c40
             clear c40
             (first | ((with_reducible replace H := bS H); obtain ⟨y283, Ny283, H⟩ := H) | (obtain ⟨y283, Ny283⟩ : ∃ y_ : List Int, y_ = (x14_4 ++ [rd x11_2 (rd (rd_L1 l2 x13_3) x15_4)]) := ⟨_, rfl⟩; rw [← Ny283] at H; replace Ny283 := yA Ny283))
             have H' := yA H
             clear H
             have p279 : 0 ≤ (x13_3 : Int) := zG (by assumption)
             have q279 : x13_3 < (l2.length : Int) := zG (by assumption)
             obtain ⟨ad279, A279_0, c279_0, e279, hx279_0, hl279_0, hi279_0⟩ := at_L1 HR2.out x13_3 p279 q279
             cases e279
             try replace hx279_0 := (HB.out.cell (zE w _ hx279_0)).trans hx279_0
             have HR279_0 := yA hi279_0
             have HC279_0 := yA hl279_0
             clear hi279_0 hl279_0
             replace p279 := eq_true p279
             replace q279 := eq_true q279
             have p280 : 0 ≤ (x13_3 : Int) := zG (by assumption)
             have q280 : x13_3 < (l2.length : Int) := zG (by assumption)
             obtain ⟨ad280, A280_0, c280_0, e280, hx280_0, hl280_0, hi280_0⟩ := at_L1 HR2.out x13_3 p280 q280
             obtain rfl : ad279 = ad280 := (by injection e280)
             try replace hx280_0 := (HB.out.cell (zE w _ hx280_0)).trans hx280_0
             have HR280_0 := yA hi280_0
             have HC280_0 := yA hl280_0
             clear hi280_0 hl280_0
             replace p280 := eq_true p280
             replace q280 := eq_true q280
             have ea_ := zU (hx279_0.symm.trans hx280_0)
             injection ea_ with ea_ en_ ec_
             subst ea_
             subst ec_
             clear en_
             have p281 : 0 ≤ (x15_4 : Int) := zG (by assumption)
             have q281 : x15_4 < ((rd_L1 l2 x13_3).length : Int) := zG (by assumption)
             obtain ⟨ad281, e281, hx281_0⟩ := Kd.at_int HR280_0.out x15_4 p281 q281
             cases e281
             try replace hx281_0 := (HB.out.cell (zE w _ hx281_0)).trans hx281_0
             replace p281 := eq_true p281
             replace q281 := eq_true q281
             have p282 : 0 ≤ ((rd (rd_L1 l2 x13_3) x15_4) : Int) := zG (by assumption)
             have q282 : (rd (rd_L1 l2 x13_3) x15_4) < (x11_2.length : Int) := zG (by assumption)
             obtain ⟨ad282, e282, hx282_0⟩ := Kd.at_int (zN HO_11.out).2.2 (rd (rd_L1 l2 x13_3) x15_4) p282 q282
             obtain rfl : ad275 = ad282 := (by injection e282)
             replace p282 := eq_true p282
             replace q282 := eq_true q282
             go_wp2_with (first | ((with_reducible refine gate_builtin (b := .append) (xs := #[.tmp 73, .tmp 84]) rfl ?_); at_builtin; refine Kd.R_append (Kd.int .i64) (w0 := w) w.heap.size rfl (.tmp 73) (.tmp 84) 38 3 (.int .i64 0) 8 rfl Try.underlying38 info3 rfl (by decide) (by omega) u14 x14_4 (rd x11_2 (rd (rd_L1 l2 x13_3) x15_4)) [.int .i64 (rd x11_2 (rd (rd_L1 l2 x13_3) x15_4))] (fun k_ => some k_ ≠ (.slice (some ad275) x11_2.length co31 : Value).ownBlock) (fun _ => False) rfl rfl ?aP (fun _ hk => hk.elim) ?aF ?aO ?aB ?aS ?aL ?_; (case aP => exact rfl); (case aB => exact (by with_reducible repeat first | exact HB.out | apply yO | apply yN | apply yP | refine yQ ?_ GE252.out)); (case aF => exact (fun k_ hk => Kd.fresh' (yZ (mR HO_11.out)) k_ hk)); (case aO => exact (mR HO_14.out)); (case aS => exact (yX (by with_reducible repeat first | exact HB.out | apply yO | apply yN | apply yP | refine yQ ?_ GE252.out))); (case aL => have := LMc40.out; omega); intro v284 w41 ho hb hg hat; rw [← Ny283.out] at ho; replace HO_9 := yA (Kd.S_after (ok := (fun k_ => some k_ ≠ (.slice (some ad275) x11_2.length co31 : Value).ownBlock)) (mS HO_9.out) hg hat); replace HO_11 := yA (Kd.R_after (ok := (fun _ => True)) (mR (zP HO_11.out (fun _ hk => ⟨trivial, hk⟩))) hg hat); replace BK252 := yA (blk_grown (g := gb252) (o := .cells #[.int .i64 0, .int .i64 0, .slice none 0 0, .slice none 0 0] 25 (0, 0)) (mK BK252.out) hg (zW HO_14.out BK252.out (by decide))); replace HB := yA (hb); have HO285 := yA (ho); clear HO_14; clear ho hb hg hat))
             go_roundg k4
             case measure => have := HK1.out; have := HK2.out; have := HK3.out; have := HK4.out; omega
             case rel => exact ⟨(y283), (wrap64 (x15_4 + 1)), (by first | rfl | (simp; done) | (simp [*]; done)), H', ⟨by have := HK1.out; have := HK2.out; have := HK3.out; have := HK4.out; omega⟩, ⟨mS HO_9.out⟩, ⟨by (with_reducible repeat (first | apply yB | apply yC | apply yD)); exact zP HO_11.out (fun _ hk => hk.2)⟩, ⟨mR HO285.out⟩, ⟨mK BK252.out⟩, ⟨by repeat (first | (with_reducible first | exact HB.out | apply yO | apply yN | apply yP | refine yQ ?_ GE252.out) | exact HB.out)⟩⟩
            ·rw [if_neg c36] at H
             have c36b0 : decide (x15_4 < ((rd_L1 l2 x13_3).length : Int)) = false := decide_eq_false c36
             clear c36
             obtain ⟨c42, H⟩ := iP H
             have LMc42 := yA c42
             clear c42
             (first | ((with_reducible replace H := bS H); obtain ⟨y286, Ny286, H⟩ := H) | (obtain ⟨y286, Ny286⟩ : ∃ y_ : List (List Int), y_ = (x9_3 ++ [x14_4]) := ⟨_, rfl⟩; rw [← Ny286] at H; replace Ny286 := yA Ny286))
             have H' := yA H
             clear H
             have p279 : 0 ≤ (x13_3 : Int) := zG (by assumption)
             have q279 : x13_3 < (l2.length : Int) := zG (by assumption)
             obtain ⟨ad279, A279_0, c279_0, e279, hx279_0, hl279_0, hi279_0⟩ := at_L1 HR2.out x13_3 p279 q279
             cases e279
             try replace hx279_0 := (HB.out.cell (zE w _ hx279_0)).trans hx279_0
             have HR279_0 := yA hi279_0
             have HC279_0 := yA hl279_0
             clear hi279_0 hl279_0
             replace p279 := eq_true p279
             replace q279 := eq_true q279
             obtain ⟨Ao44, co44, eo44⟩ := Kd.R_slice HO_14.out
             subst eo44
             go_wp2_with (first | ((with_reducible refine gate_builtin (b := .append) (xs := #[.tmp 86, .tmp 88]) rfl ?_); at_builtin; refine Kd.S_append (Kd.slice 3 (Kd.int .i64)) (w0 := w) w.heap.size rfl (.tmp 86) (.tmp 88) 22 38 (.slice none 0 0) 24 rfl Try.underlying22 info38 rfl (by decide) (by omega) u9 x9_3 x14_4 [.slice Ao44 x14_4.length co44] (fun k_ => some k_ ≠ (.slice (some ad275) x11_2.length co31 : Value).ownBlock) (fun k_ => some k_ = (.slice Ao44 x14_4.length co44 : Value).ownBlock) rfl rfl ?aP (fun k_ hk_ => ((zP (ok' := fun k_ => ((fun k_ => some k_ ≠ (.slice (some ad275) x11_2.length co31 : Value).ownBlock)) k_ ∧ some k_ ≠ (u9 : Value).ownBlock) (Kd.R_apart' (HO_14.out) (Kd.S_typed HO_9.out) (by decide)) (fun k_ hk => ⟨hk.1, hk.2⟩))).1 k_ hk_.symm) ?aF ?aO ?aB ?aS ?aL ?_; (case aP => exact Kd.M_row (zP (Kd.R_tight rfl (zP (ok' := fun k_ => ((fun k_ => some k_ ≠ (.slice (some ad275) x11_2.length co31 : Value).ownBlock)) k_ ∧ some k_ ≠ (u9 : Value).ownBlock) (Kd.R_apart' (HO_14.out) (Kd.S_typed HO_9.out) (by decide)) (fun k_ hk => ⟨hk.1, hk.2⟩))) (fun _ h_ => h_))); (case aB => exact (by with_reducible repeat first | exact HB.out | apply yO | apply yN | apply yP | refine yQ ?_ GE252.out)); (case aF => exact (fun k_ hk => Kd.fresh' (yZ (mR HO_11.out)) k_ hk)); (case aO => exact (mS (Kd.S_mono HO_9.out (fun k_ hk => ⟨hk.1, fun e_ => hk.2 e_⟩)))); (case aS => exact (yX (by with_reducible repeat first | exact HB.out | apply yO | apply yN | apply yP | refine yQ ?_ GE252.out))); (case aL => have := LMc42.out; omega); intro v287 w43 ho hb hg hat; rw [← Ny286.out] at ho; replace HO_11 := yA (Kd.R_over' (mR HO_11.out) (Kd.S_typed (mS HO_9.out)) (by decide) hg); replace BK252 := yA (blk_grown (g := gb252) (o := .cells #[.int .i64 0, .int .i64 0, .slice none 0 0, .slice none 0 0] 25 (0, 0)) (mK BK252.out) hg (Kd.S_ne HO_9.out BK252.out (by decide))); replace HB := yA (hb); have HO288 := yA (ho); clear HO_9 HO_14; clear ho hb hg hat))
             go_roundg k4
             case measure => have := HK1.out; have := HK2.out; have := HK3.out; have := HK4.out; omega
             case rel => exact ⟨(y286), (wrap64 (x13_3 + 1)), (by first | rfl | (simp; done) | (simp [*]; done)), H', ⟨by have := HK1.out; have := HK2.out; have := HK3.out; have := HK4.out; omega⟩, ⟨mS HO288.out⟩, ⟨by (with_reducible repeat (first | apply yB | apply yC | apply yD)); exact zP HO_11.out (fun _ hk => trivial)⟩, ⟨mK BK252.out⟩, ⟨by repeat (first | (with_reducible first | exact HB.out | apply yO | apply yN | apply yP | refine yQ ?_ GE252.out) | exact HB.out)⟩⟩
         ·rw [if_neg c28] at H
          have c28b0 : decide (x13_3 < (l2.length : Int)) = false := decide_eq_false c28
          clear c28
          obtain ⟨t289, A45, H⟩ := bE H
          obtain ⟨t292, A46, H⟩ := bE H
          by_cases c47 : t292 = true
          ·subst c47
           replace H := iT H
           have H' := yA H
           clear H
           obtain ⟨Ao48, co48, eo48⟩ := Kd.S_slice HO_9.out
           subst eo48
           go_wp2_with (first | ((with_reducible refine zS (f := 104) rfl ?_); refine goesL_ (some 91) rfl rfl Try.func104 (by kernel_rfl) rfl #[.slice Ao48 x9_3.length co48] rfl (by (try simp only [zI, zJ, zK]); first | done | rfl | (simp only [zL, zM]; rfl)) ?_; (with_reducible refine (spec_l4Number.calls k3 _ _ x9_3 t289 _ ?side1 ?side2 A45.out).mono ?_); (case side1 => exact mC ((Kd.S_reads' HO_9.out).2.2)); (case side2 => exact (Kd.S_reads' HO_9.out).2.1); rintro e w49 ⟨v290, rfl, ho0, hb⟩; refine ⟨_, rfl, ?_⟩; replace HO_9 := yA (Kd.S_elder' (mS HO_9.out) (yY ho0) hb); have HO291 := yA (Kd.R_lower (Kd.R_new' ho0 (yZ (mR HO_11.out))) (yX (by with_reducible repeat first | exact HB.out | apply yO | apply yN | apply yP | refine yQ ?_ GE252.out))); replace HO_11 := yA (zO (mR HO_11.out) (yY ho0) hb); replace BK252 := yA (yU (mK BK252.out) hb); replace HB := yA (zD (by with_reducible repeat first | exact HB.out | apply yO | apply yN | apply yP | refine yQ ?_ GE252.out) hb); (try clear hb); (try clear hb2); (try clear hk); (try clear hi); (try clear ho0); obtain ⟨Ao50, co50, eo50⟩ := Kd.R_slice HO291.out; subst eo50; obtain ⟨Ao51, co51, eo51⟩ := Kd.R_slice HO_11.out; subst eo51) | ((with_reducible refine zS (f := 98) rfl ?_); refine goesL_ (some 94) rfl rfl Try.func98 (by kernel_rfl) rfl #[.slice Ao50 t289.length co50, .slice Ao51 x11_2.length co51] rfl (by (try simp only [zI, zJ, zK]); first | done | rfl | (simp only [zL, zM]; rfl)) ?_; (with_reducible refine (spec_l3Same.calls k3 _ _ t289 _ _ x11_2 true _ ?side1 ?side2 ?side3 ?side4 A46.out).mono ?_); (case side1 => exact mC ((zN HO291.out).2.2)); (case side2 => exact (zN HO291.out).2.1); (case side3 => exact mC ((zN HO_11.out).2.2)); (case side4 => exact (zN HO_11.out).2.1); rintro e w' ⟨rfl, ⟨nd, rfl⟩⟩; refine ⟨_, rfl, ?_⟩))
           go_roundg k3
           case measure => have := HK1.out; have := HK2.out; have := HK3.out; omega
           case rel => exact ⟨(t289), (wrap64 ((l2.length : Int) + 1)), (by first | rfl | (simp; done) | (simp [*]; done)), H', ⟨by have := HK1.out; have := HK2.out; have := HK3.out; omega⟩, ⟨by (with_reducible repeat (first | apply yB | apply yC | apply yD)); exact zP HO291.out (fun _ hk => trivial)⟩, ⟨mK BK252.out⟩, ⟨by repeat (first | (with_reducible first | exact HB.out | apply yO | apply yN | apply yP | refine yQ ?_ GE252.out) | exact HB.out)⟩⟩
          ·replace c47 := Bool.eq_false_iff.mpr c47
           subst c47
           replace H := iF H
           have H' := yA H
           clear H
           obtain ⟨Ao52, co52, eo52⟩ := Kd.S_slice HO_9.out
           subst eo52
           go_wp2_with (first | ((with_reducible refine zS (f := 104) rfl ?_); refine goesL_ (some 91) rfl rfl Try.func104 (by kernel_rfl) rfl #[.slice Ao52 x9_3.length co52] rfl (by (try simp only [zI, zJ, zK]); first | done | rfl | (simp only [zL, zM]; rfl)) ?_; (with_reducible refine (spec_l4Number.calls k3 _ _ x9_3 t289 _ ?side1 ?side2 A45.out).mono ?_); (case side1 => exact mC ((Kd.S_reads' HO_9.out).2.2)); (case side2 => exact (Kd.S_reads' HO_9.out).2.1); rintro e w53 ⟨v290, rfl, ho0, hb⟩; refine ⟨_, rfl, ?_⟩; replace HO_9 := yA (Kd.S_elder' (mS HO_9.out) (yY ho0) hb); have HO291 := yA (Kd.R_lower (Kd.R_new' ho0 (yZ (mR HO_11.out))) (yX (by with_reducible repeat first | exact HB.out | apply yO | apply yN | apply yP | refine yQ ?_ GE252.out))); replace HO_11 := yA (zO (mR HO_11.out) (yY ho0) hb); replace BK252 := yA (yU (mK BK252.out) hb); replace HB := yA (zD (by with_reducible repeat first | exact HB.out | apply yO | apply yN | apply yP | refine yQ ?_ GE252.out) hb); (try clear hb); (try clear hb2); (try clear hk); (try clear hi); (try clear ho0); obtain ⟨Ao54, co54, eo54⟩ := Kd.R_slice HO291.out; subst eo54; obtain ⟨Ao55, co55, eo55⟩ := Kd.R_slice HO_11.out; subst eo55) | ((with_reducible refine zS (f := 98) rfl ?_); refine goesL_ (some 94) rfl rfl Try.func98 (by kernel_rfl) rfl #[.slice Ao54 t289.length co54, .slice Ao55 x11_2.length co55] rfl (by (try simp only [zI, zJ, zK]); first | done | rfl | (simp only [zL, zM]; rfl)) ?_; (with_reducible refine (spec_l3Same.calls k3 _ _ t289 _ _ x11_2 false _ ?side1 ?side2 ?side3 ?side4 A46.out).mono ?_); (case side1 => exact mC ((zN HO291.out).2.2)); (case side2 => exact (zN HO291.out).2.1); (case side3 => exact mC ((zN HO_11.out).2.2)); (case side4 => exact (zN HO_11.out).2.1); rintro e w' ⟨rfl, ⟨nd, rfl⟩⟩; refine ⟨_, rfl, ?_⟩))
           go_roundg k3
           case measure => have := HK1.out; have := HK2.out; have := HK3.out; omega
           case rel => exact ⟨(t289), (wrap64 (x12_2 + 1)), (by first | rfl | (simp; done) | (simp [*]; done)), H', ⟨by have := HK1.out; have := HK2.out; have := HK3.out; omega⟩, ⟨by (with_reducible repeat (first | apply yB | apply yC | apply yD)); exact zP HO291.out (fun _ hk => trivial)⟩, ⟨mK BK252.out⟩, ⟨by repeat (first | (with_reducible first | exact HB.out | apply yO | apply yN | apply yP | refine yQ ?_ GE252.out) | exact HB.out)⟩⟩
      ·rw [if_neg c25] at H
       have c25b0 : decide (x12_2 < (l2.length : Int)) = false := decide_eq_false c25
       clear c25
       (first | ((with_reducible replace H := bS H); obtain ⟨y294, Ny294, H⟩ := H) | (obtain ⟨y294, Ny294⟩ : ∃ y_ : List Int, y_ = (([0] : List Int)) := ⟨_, rfl⟩; rw [← Ny294] at H; replace Ny294 := yA Ny294))
       have H' := yA H
       clear H
       go_wp2_with (first | ((with_reducible refine gate_dst (N := 17) rfl ?_); refine box_event ?hg (N := 17) ?hd (cs := #[.int .i64 0, .int .i64 0, .slice none 0 0, .slice none 0 0]) (t := 25) ?hr ?_; (case hd => rfl); (case hg => rfl); (case hr => first | (go_simp; done) | (go_simp; rfl)); intro gb293 hg w56 hbox hb; replace HO_11 := yA (yK (mR HO_11.out) hb); have BK293 := yA (hbox); have GW293 := yA ((by rw [hg]; exact (yX (by with_reducible repeat first | exact HB.out | apply yO | apply yN | apply yP | refine yQ ?_ GE252.out)) : w.heap.size ≤ gb293)); have GE293 := yA ((by rw [hg]; exact (yX (by with_reducible repeat first | exact HB.out | apply yO | apply yN | apply yP | refine yQ ?_ GE252.out)) : w.heap.size ≤ gb293)); replace HB := yA (zD (by with_reducible repeat first | exact HB.out | apply yO | apply yN | apply yP | refine yQ ?_ GE252.out) hb); have NB252_293 := yA ((by rw [hg]; exact Nat.ne_of_lt (zX (mK BK252.out)) : gb252 ≠ gb293)); have NB293_252 := yA ((by rw [hg]; exact Nat.ne_of_gt (zX (mK BK252.out)) : gb293 ≠ gb252)); replace BK252 := yA (yU (mK BK252.out) hb); clear hb hbox hg; have hnb57 := NB293_252.out; have hnc57 := NB252_293.out; have hcz58_0 : w56.cell? ⟨gb293, 0, none⟩ = some (.int .i64 0) := (yV BK293.out 0).trans rfl; have hcz58_1 : w56.cell? ⟨gb293, 1, none⟩ = some (.int .i64 0) := (yV BK293.out 1).trans rfl; have hcz58_2 : w56.cell? ⟨gb293, 2, none⟩ = some (.slice none 0 0) := (yV BK293.out 2).trans rfl; have hcz58_3 : w56.cell? ⟨gb293, 3, none⟩ = some (.slice none 0 0) := (yV BK293.out 3).trans rfl; have hfz58_0 := yW BK293.out 0; have hfz58_1 := yW BK293.out 1; have hfz58_2 := yW BK293.out 2; have hfz58_3 := yW BK293.out 3) | ((with_reducible refine gate_dst (N := 101) rfl ?_); refine Kd.R_lit (Kd.int .i64) _ 3 ?hg (N := 101) ?hd (xs := ([0] : List Int)) (inner := [.int .i64 0]) (ok := fun _ => True) (okp := fun _ => True) ?hr ?hp (fun _ hk => hk) trivial (zV _ _) (zT _) (by simp) ?_; (case hd => rfl); (case hg => rfl); (case hr => first | (go_simp; done) | (go_simp; rfl)); (case hp => exact (Reps.one (show Kd.M (Kd.int .i64) _ _ _ 0 [.int .i64 0] from rfl) (Reps.none _ _))); intro v295 w59 ho60 hb hg_ hnew_; clear hg_ hnew_; (first | rw [← Ny294.out] at ho60 | (simp only [Int.reduceToNat] at ho60; rw [← Ny294.out] at ho60)); have HO296 := yA (Kd.R_lower (Kd.R_new' ho60 (yZ (mR (zP (zQ (p := ⟨gb293, 3, none⟩) (zQ (p := ⟨gb293, 2, none⟩) (zQ (p := ⟨gb293, 1, none⟩) (zQ (p := ⟨gb293, 0, none⟩) (zR HO_11.out BK293.out (by decide)) (fun _ hk => hk.2) (.int .i64 a0)) (fun _ hk => hk.2) (.int .i64 a1)) (fun _ hk => hk.2) (.slice none 0 0)) (fun _ hk => hk.2) (.slice none 0 0)) (fun _ h_ => h_.1))))) (yX (by with_reducible repeat first | exact HB.out | apply yO | apply yN | apply yP | refine yQ ?_ GE252.out | refine yQ ?_ GE293.out))); replace HO_11 := yA (zO (mR (zP (zQ (p := ⟨gb293, 3, none⟩) (zQ (p := ⟨gb293, 2, none⟩) (zQ (p := ⟨gb293, 1, none⟩) (zQ (p := ⟨gb293, 0, none⟩) (zR HO_11.out BK293.out (by decide)) (fun _ hk => hk.2) (.int .i64 a0)) (fun _ hk => hk.2) (.int .i64 a1)) (fun _ hk => hk.2) (.slice none 0 0)) (fun _ hk => hk.2) (.slice none 0 0)) (fun _ h_ => h_.1))) (yY ho60) hb); replace BK252 := yA (yU (g := gb252) (o := .cells #[.int .i64 0, .int .i64 0, .slice none 0 0, .slice none 0 0] 25 (0, 0)) (by (with_reducible repeat (first | refine yS ?_ _ | refine yT ?_ | refine yR ?_ _)); refine blk_far ?_ NB252_293.out _; (with_reducible repeat (first | refine yS ?_ _ | refine yT ?_ | refine yR ?_ _)); refine blk_far ?_ NB252_293.out _; (with_reducible repeat (first | refine yS ?_ _ | refine yT ?_ | refine yR ?_ _)); refine blk_far ?_ NB252_293.out _; (with_reducible repeat (first | refine yS ?_ _ | refine yT ?_ | refine yR ?_ _)); refine blk_far ?_ NB252_293.out _; (with_reducible repeat (first | refine yS ?_ _ | refine yT ?_ | refine yR ?_ _)); exact BK252.out) hb); replace BK293 := yA (yU (g := gb293) (o := .cells #[.int .i64 a0, .int .i64 a1, .slice none 0 0, .slice none 0 0] 25 (0, 0)) (by (with_reducible repeat (first | refine yS ?_ _ | refine yT ?_ | refine yR ?_ _)); refine blk_put (cs := #[.int .i64 a0, .int .i64 a1, .slice none 0 0, .slice none 0 0]) ?_ 3 _ rfl; (with_reducible repeat (first | refine yS ?_ _ | refine yT ?_ | refine yR ?_ _)); refine blk_put (cs := #[.int .i64 a0, .int .i64 a1, .slice none 0 0, .slice none 0 0]) ?_ 2 _ rfl; (with_reducible repeat (first | refine yS ?_ _ | refine yT ?_ | refine yR ?_ _)); refine blk_put (cs := #[.int .i64 a0, .int .i64 0, .slice none 0 0, .slice none 0 0]) ?_ 1 _ rfl; (with_reducible repeat (first | refine yS ?_ _ | refine yT ?_ | refine yR ?_ _)); refine blk_put (cs := #[.int .i64 0, .int .i64 0, .slice none 0 0, .slice none 0 0]) ?_ 0 _ rfl; (with_reducible repeat (first | refine yS ?_ _ | refine yT ?_ | refine yR ?_ _)); exact BK293.out) hb); replace HB := yA (zD (by with_reducible repeat first | exact HB.out | apply yO | apply yN | apply yP | refine yQ ?_ GE252.out | refine yQ ?_ GE293.out) hb); clear hb ho60))
       go_loopg [18, 19] k2 (fun kq v18 v19 w' => ∃ (x18_3 : List Int) (x19_3 : Int) (x294002_3 : List (List Int)) (x294003_3 : List Bool) (u294002 : Value) (u294003 : Value), v19 = .int .i64 x19_3 ∧ Aside0 (spec_l13Reduce.l4 kq l2 l3 x11_2 x18_3 x19_3 a0 a1 x294002_3 x294003_3 = some (r1, r2, r3, r4)) ∧ Aside0 (kq ≤ k2) ∧ Aside0 (Kd.R (Kd.int .i64) 3 w' w.heap.size (fun k_ => some k_ ≠ (v18 : Value).ownBlock) u11 x11_2) ∧ Aside0 (Kd.R (Kd.int .i64) 3 w' w.heap.size (fun k_ => some k_ ≠ (u11 : Value).ownBlock) v18 x18_3) ∧ Aside0 (Kd.S (Kd.slice 3 (Kd.int .i64)) 38 w' w.heap.size (fun k_ => some k_ ≠ (u11 : Value).ownBlock ∧ some k_ ≠ (v18 : Value).ownBlock) u294002 x294002_3) ∧ Aside0 (Kd.R Kd.bool 4 w' w.heap.size (fun _ => True) u294003 x294003_3) ∧ Aside0 (w'.heap[gb252]? = some (.cells #[.int .i64 0, .int .i64 0, (.slice none 0 0), (.slice none 0 0)] 25 (0, 0))) ∧ Aside0 (w'.heap[gb293]? = some (.cells #[.int .i64 a0, .int .i64 a1, u294002, u294003] 25 (0, 0))) ∧ Aside0 (Below w.heap.size w w'))
       case atStart => exact ⟨(y294), (0), (([] : List (List Int))), (([] : List Bool)), (.slice none 0 0), (.slice none 0 0), (by first | rfl | (simp; done) | (simp [*]; done)), H', ⟨zT _⟩, ⟨by (with_reducible repeat (first | apply yB | apply yC | apply yD)); exact zP HO_11.out (fun _ hk => hk.2)⟩, ⟨by (with_reducible repeat (first | apply yB | apply yC | apply yD)); exact zP HO296.out (fun _ hk => hk.2)⟩, ⟨by first | exact Kd.S_nil _ _ _ _ _ | exact Kd.N_nil _ _ _ _ _ | exact Kd.V_nil _ _ _ _ _ | exact Kd.Q_nil _ _ _ _ _ | exact Kd.R_nil _ _ _ _ _⟩, ⟨by first | exact Kd.R_nil _ _ _ _ _ | exact Kd.N_nil _ _ _ _ _ | exact Kd.V_nil _ _ _ _ _ | exact Kd.Q_nil _ _ _ _ _ | exact Kd.S_nil _ _ _ _ _⟩, ⟨mK BK252.out⟩, ⟨mK BK293.out⟩, ⟨by repeat (first | (with_reducible first | exact HB.out | apply yO | apply yN | apply yP | refine yQ ?_ GE252.out | refine yQ ?_ GE293.out) | exact HB.out)⟩⟩
       case round =>
        clear H'
        (try clear c1);(try clear q1);(try clear c2);(try clear p2);(try clear q2);(try clear hx2);(try clear c3);(try clear c4);(try clear c5);(try clear p6);(try clear c8);(try clear c8b0);(try clear c9);(try clear c9b0);(try clear c10);(try clear q10);(try clear c11);(try clear c12);(try clear c17);(try clear c25);(try clear c25b0);(try clear p25);(try clear q25);(try clear hx25);(try clear c27);(try clear p27);(try clear q27);(try clear hx27);(try clear c28);(try clear c28b0);(try clear p28);(try clear q28);(try clear hx28);(try clear c29);(try clear c29b0);(try clear c30);(try clear c30b0);(try clear c34);(try clear c34b0);(try clear c35);(try clear c35b0);(try clear c36);(try clear c36b0);(try clear c37);(try clear c37b0);(try clear c38);(try clear c38b0);(try clear c39);(try clear c39b0);(try clear c40);(try clear c42);(try clear c47);(try clear c57);(try clear hcz58_0);(try clear hcz58_1);(try clear hcz58_2);(try clear hcz58_3);(try clear hfz58_0);(try clear hfz58_1);(try clear hfz58_2);(try clear hfz58_3);(try clear hx256_0);(try clear hx275_0);(try clear hx279_0);(try clear hx280_0);(try clear hx281_0);(try clear hx282_0);(try clear p2);(try clear p25);(try clear p256);(try clear p27);(try clear p275);(try clear p279);(try clear p280);(try clear p281);(try clear p282);(try clear p6);(try clear q1);(try clear q10);(try clear q2);(try clear q25);(try clear q256);(try clear q27);(try clear q275);(try clear q279);(try clear q280);(try clear q281);(try clear q282)
        obtain ⟨x18_3, x19_3, x294002_3, x294003_3, u294002, u294003, rfl, HA, HK3, HO_11, HO_18, HO_294002, HO_294003, BK252, BK293, HB⟩ := hrel
        cases gk with
        | zero => exact absurd HA.out (by simp [spec_l13Reduce.l4])
        | succ k3 =>
         have H := HA.out
         clear HA
         simp only [spec_l13Reduce.l4] at H
         by_cases c61 : x19_3 < (x18_3.length : Int)
         ·rw [if_pos c61] at H
          have c61b0 : decide (x19_3 < (x18_3.length : Int)) = true := zH c61
          clear c61
          (first | ((with_reducible replace H := bS H); obtain ⟨y297, Ny297, H⟩ := H) | (obtain ⟨y297, Ny297⟩ : ∃ y_ : List Int, y_ = (([] : List Int)) := ⟨_, rfl⟩; rw [← Ny297] at H; replace Ny297 := yA Ny297))
          have H' := yA H
          clear H
          obtain ⟨Ao62, co62, eo62⟩ := Kd.R_slice HO_18.out
          subst eo62
          go_wp2_with (first | ((with_reducible refine gate_dst (N := 108) rfl ?_); refine Kd.R_lit (Kd.int .i64) _ 3 ?hg (N := 108) ?hd (xs := ([] : List Int)) (inner := []) (ok := fun _ => True) (okp := fun _ => True) ?hr ?hp (fun _ hk => hk) trivial (zV _ _) (zT _) (by simp) ?_; (case hd => rfl); (case hg => rfl); (case hr => first | (go_simp; done) | (go_simp; rfl)); (case hp => exact (Reps.none _ _)); intro v298 w63 ho64 hb hg_ hnew_; clear hg_ hnew_; (first | rw [← Ny297.out] at ho64 | (simp only [Int.reduceToNat] at ho64; rw [← Ny297.out] at ho64)); replace HO_294002 := yA (Kd.S_elder' (mS HO_294002.out) (yY ho64) hb); replace HO_294003 := yA (yK (mR HO_294003.out) hb); have HO299 := yA (Kd.R_lower (Kd.R_new' (Kd.R_new' ho64 (yZ (mR HO_11.out))) (yZ (mR HO_18.out))) (yX (by with_reducible repeat first | exact HB.out | apply yO | apply yN | apply yP | refine yQ ?_ GE252.out | refine yQ ?_ GE293.out))); replace HO_11 := yA (zO (mR HO_11.out) (yY ho64) hb); replace HO_18 := yA (zO (mR HO_18.out) (yY ho64) hb); replace BK252 := yA (yU (mK BK252.out) hb); replace BK293 := yA (yU (mK BK293.out) hb); replace HB := yA (zD (by with_reducible repeat first | exact HB.out | apply yO | apply yN | apply yP | refine yQ ?_ GE252.out | refine yQ ?_ GE293.out) hb); clear hb ho64))
          go_loopg [18, 20, 21] k3 (fun kq v18 v20 v21 w' => ∃ (x18_4 : List Int) (x20_4 : List Int) (x21_4 : Int), v21 = .int .i64 x21_4 ∧ Aside0 (spec_l13Reduce.l5 kq l2 l3 x11_2 x18_4 x19_3 x20_4 x21_4 a0 a1 x294002_3 x294003_3 = some (r1, r2, r3, r4)) ∧ Aside0 (kq ≤ k3) ∧ Aside0 (Kd.R (Kd.int .i64) 3 w' w.heap.size (fun k_ => some k_ ≠ (v18 : Value).ownBlock ∧ some k_ ≠ (v20 : Value).ownBlock) u11 x11_2) ∧ Aside0 (Kd.R (Kd.int .i64) 3 w' w.heap.size (fun k_ => some k_ ≠ (u11 : Value).ownBlock ∧ some k_ ≠ (v20 : Value).ownBlock) v18 x18_4) ∧ Aside0 (Kd.R (Kd.int .i64) 3 w' w.heap.size (fun k_ => some k_ ≠ (u11 : Value).ownBlock ∧ some k_ ≠ (v18 : Value).ownBlock) v20 x20_4) ∧ Aside0 (Kd.S (Kd.slice 3 (Kd.int .i64)) 38 w' w.heap.size (fun k_ => some k_ ≠ (u11 : Value).ownBlock ∧ some k_ ≠ (v18 : Value).ownBlock ∧ some k_ ≠ (v20 : Value).ownBlock) u294002 x294002_3) ∧ Aside0 (Kd.R Kd.bool 4 w' w.heap.size (fun _ => True) u294003 x294003_3) ∧ Aside0 (w'.heap[gb252]? = some (.cells #[.int .i64 0, .int .i64 0, (.slice none 0 0), (.slice none 0 0)] 25 (0, 0))) ∧ Aside0 (w'.heap[gb293]? = some (.cells #[.int .i64 a0, .int .i64 a1, u294002, u294003] 25 (0, 0))) ∧ Aside0 (Below w.heap.size w w'))
          case atStart => exact ⟨(x18_3), (y297), (0), (by first | rfl | (simp; done) | (simp [*]; done)), H', ⟨zT _⟩, ⟨mR HO_11.out⟩, ⟨mR HO_18.out⟩, ⟨by (with_reducible repeat (first | apply yB | apply yC | apply yD)); exact zP HO299.out (fun _ hk => ⟨hk.1.2, hk.2⟩)⟩, ⟨by (with_reducible repeat (first | apply yH | apply yI | apply yJ)); exact Kd.S_mono HO_294002.out (fun _ hk => ⟨hk.1.1, ⟨hk.1.2, hk.2⟩⟩)⟩, ⟨mR HO_294003.out⟩, ⟨mK BK252.out⟩, ⟨mK BK293.out⟩, ⟨by repeat (first | (with_reducible first | exact HB.out | apply yO | apply yN | apply yP | refine yQ ?_ GE252.out | refine yQ ?_ GE293.out) | exact HB.out)⟩⟩
          case round =>
           clear H'
           (try clear c1);(try clear q1);(try clear c2);(try clear p2);(try clear q2);(try clear hx2);(try clear c3);(try clear c4);(try clear c5);(try clear c6);(try clear p6);(try clear c8);(try clear c8b0);(try clear c9);(try clear c9b0);(try clear c10);(try clear q10);(try clear c11);(try clear c12);(try clear c17);(try clear c25);(try clear c25b0);(try clear p25);(try clear q25);(try clear hx25);(try clear c27);(try clear p27);(try clear q27);(try clear hx27);(try clear c28);(try clear c28b0);(try clear p28);(try clear q28);(try clear hx28);(try clear c29);(try clear c29b0);(try clear c30);(try clear c30b0);(try clear c34);(try clear c34b0);(try clear c35);(try clear c35b0);(try clear c36);(try clear c36b0);(try clear c37);(try clear c37b0);(try clear c38);(try clear c38b0);(try clear c39);(try clear c39b0);(try clear c40);(try clear c42);(try clear c47);(try clear c57);(try clear c61);(try clear c61b0);(try clear p64);(try clear hcz58_0);(try clear hcz58_1);(try clear hcz58_2);(try clear hcz58_3);(try clear hfz58_0);(try clear hfz58_1);(try clear hfz58_2);(try clear hfz58_3);(try clear hx256_0);(try clear hx275_0);(try clear hx279_0);(try clear hx280_0);(try clear hx281_0);(try clear hx282_0);(try clear p2);(try clear p25);(try clear p256);(try clear p27);(try clear p275);(try clear p279);(try clear p28);(try clear p280);(try clear p281);(try clear p282);(try clear p6);(try clear q1);(try clear q10);(try clear q2);(try clear q25);(try clear q256);(try clear q27);(try clear q275);(try clear q279);(try clear q28);(try clear q280);(try clear q281);(try clear q282)
           obtain ⟨x18_4, x20_4, x21_4, rfl, HA, HK4, HO_11, HO_18, HO_20, HO_294002, HO_294003, BK252, BK293, HB⟩ := hrel
           cases gk with
           | zero => exact absurd HA.out (by simp [spec_l13Reduce.l5])
           | succ k4 =>
            have H := HA.out
            clear HA
            simp only [spec_l13Reduce.l5] at H
            obtain ⟨c65, H⟩ := iP H
            have c65b0 : decide (0 ≤ x19_3) = true := zH c65
            clear c65
            obtain ⟨c66, H⟩ := iP H
            have c66b0 : decide (x19_3 < (x18_4.length : Int)) = true := zH c66
            clear c66
            obtain ⟨c67, H⟩ := iP H
            have c67b0 : decide (0 ≤ (rd x18_4 x19_3)) = true := zH c67
            clear c67
            obtain ⟨c68, H⟩ := iP H
            have c68b0 : decide ((rd x18_4 x19_3) < (l2.length : Int)) = true := zH c68
            clear c68
            by_cases c69 : x21_4 < ((rd_L1 l2 (rd x18_4 x19_3)).length : Int)
            ·rw [if_pos c69] at H
             have c69b0 : decide (x21_4 < ((rd_L1 l2 (rd x18_4 x19_3)).length : Int)) = true := zH c69
             clear c69
             obtain ⟨c70, H⟩ := iP H
             have c70b0 : decide (0 ≤ x21_4) = true := zH c70
             clear c70
             have H' := yA H
             clear H
             obtain ⟨Ao71, co71, eo71⟩ := Kd.R_slice HO_18.out
             subst eo71
             have p300 : 0 ≤ (x19_3 : Int) := zG (by assumption)
             have q300 : x19_3 < (x18_4.length : Int) := zG (by assumption)
             obtain ⟨ad300, e300, hx300_0⟩ := Kd.at_int (zN HO_18.out).2.2 x19_3 p300 q300
             cases e300
             replace p300 := eq_true p300
             replace q300 := eq_true q300
             have p301 : 0 ≤ ((rd x18_4 x19_3) : Int) := zG (by assumption)
             have q301 : (rd x18_4 x19_3) < (l2.length : Int) := zG (by assumption)
             obtain ⟨ad301, A301_0, c301_0, e301, hx301_0, hl301_0, hi301_0⟩ := at_L1 HR2.out (rd x18_4 x19_3) p301 q301
             cases e301
             try replace hx301_0 := (HB.out.cell (zE w _ hx301_0)).trans hx301_0
             have HR301_0 := yA hi301_0
             have HC301_0 := yA hl301_0
             clear hi301_0 hl301_0
             replace p301 := eq_true p301
             replace q301 := eq_true q301
             have p310 : 0 ≤ (x19_3 : Int) := zG (by assumption)
             have q310 : x19_3 < (x18_4.length : Int) := zG (by assumption)
             obtain ⟨ad310, e310, hx310_0⟩ := Kd.at_int (zN HO_18.out).2.2 x19_3 p310 q310
             obtain rfl : ad300 = ad310 := (by injection e310)
             replace p310 := eq_true p310
             replace q310 := eq_true q310
             have p311 : 0 ≤ ((rd x18_4 x19_3) : Int) := zG (by assumption)
             have q311 : (rd x18_4 x19_3) < (l2.length : Int) := zG (by assumption)
             obtain ⟨ad311, A311_0, c311_0, e311, hx311_0, hl311_0, hi311_0⟩ := at_L1 HR2.out (rd x18_4 x19_3) p311 q311
             obtain rfl : ad301 = ad311 := (by injection e311)
             try replace hx311_0 := (HB.out.cell (zE w _ hx311_0)).trans hx311_0
             have HR311_0 := yA hi311_0
             have HC311_0 := yA hl311_0
             clear hi311_0 hl311_0
             replace p311 := eq_true p311
             replace q311 := eq_true q311
             have ea_ := zU (hx301_0.symm.trans hx311_0)
             injection ea_ with ea_ en_ ec_
             subst ea_
             subst ec_
             clear en_
             have p312 : 0 ≤ (x21_4 : Int) := zG (by assumption)
             have q312 : x21_4 < ((rd_L1 l2 (rd x18_4 x19_3)).length : Int) := zG (by assumption)
             obtain ⟨ad312, e312, hx312_0⟩ := Kd.at_int HR311_0.out x21_4 p312 q312
             cases e312
             try replace hx312_0 := (HB.out.cell (zE w _ hx312_0)).trans hx312_0
             replace p312 := eq_true p312
             replace q312 := eq_true q312
             go_wp2
             go_loopg [23, 24] k4 (fun kq v23 v24 w' => ∃ (x23_5 : Int) (x24_5 : Int), v23 = .int .i64 x23_5 ∧ v24 = .int .i64 x24_5 ∧ Aside0 (spec_l13Reduce.l6 kq l2 l3 x11_2 x18_4 x19_3 x20_4 x21_4 (rd (rd_L1 l2 (rd x18_4 x19_3)) x21_4) x23_5 x24_5 a0 a1 x294002_3 x294003_3 = some (r1, r2, r3, r4)) ∧ Aside0 (kq ≤ k4) ∧ Aside0 (Kd.R (Kd.int .i64) 3 w' w.heap.size (fun k_ => some k_ ≠ ((.slice (some ad300) x18_4.length co71) : Value).ownBlock ∧ some k_ ≠ (u20 : Value).ownBlock) u11 x11_2) ∧ Aside0 (Kd.R (Kd.int .i64) 3 w' w.heap.size (fun k_ => some k_ ≠ (u11 : Value).ownBlock ∧ some k_ ≠ (u20 : Value).ownBlock) (.slice (some ad300) x18_4.length co71) x18_4) ∧ Aside0 (Kd.R (Kd.int .i64) 3 w' w.heap.size (fun k_ => some k_ ≠ (u11 : Value).ownBlock ∧ some k_ ≠ ((.slice (some ad300) x18_4.length co71) : Value).ownBlock) u20 x20_4) ∧ Aside0 (Kd.S (Kd.slice 3 (Kd.int .i64)) 38 w' w.heap.size (fun k_ => some k_ ≠ (u11 : Value).ownBlock ∧ some k_ ≠ ((.slice (some ad300) x18_4.length co71) : Value).ownBlock ∧ some k_ ≠ (u20 : Value).ownBlock) u294002 x294002_3) ∧ Aside0 (Kd.R Kd.bool 4 w' w.heap.size (fun _ => True) u294003 x294003_3) ∧ Aside0 (w'.heap[gb252]? = some (.cells #[.int .i64 0, .int .i64 0, (.slice none 0 0), (.slice none 0 0)] 25 (0, 0))) ∧ Aside0 (w'.heap[gb293]? = some (.cells #[.int .i64 a0, .int .i64 a1, u294002, u294003] 25 (0, 0))) ∧ Aside0 (Below w.heap.size w w'))
             case atStart => exact ⟨((-1)), (0), (by first | rfl | (simp; done) | (simp [*]; done)), (by first | rfl | (simp; done) | (simp [*]; done)), H', ⟨zT _⟩, ⟨mR HO_11.out⟩, ⟨mR HO_18.out⟩, ⟨mR HO_20.out⟩, ⟨mS HO_294002.out⟩, ⟨mR HO_294003.out⟩, ⟨mK BK252.out⟩, ⟨mK BK293.out⟩, ⟨by repeat (first | (with_reducible first | exact HB.out | apply yO | apply yN | apply yP | refine yQ ?_ GE252.out | refine yQ ?_ GE293.out) | exact HB.out)⟩⟩
             case round =>
              clear H'
              (try clear c1);(try clear q1);(try clear c2);(try clear p2);(try clear q2);(try clear hx2);(try clear c3);(try clear p3);(try clear q3);(try clear hx3);(try clear c4);(try clear c5);(try clear c6);(try clear p6);(try clear c7);(try clear c8);(try clear c8b0);(try clear c9);(try clear c9b0);(try clear c10);(try clear q10);(try clear c11);(try clear c12);(try clear c17);(try clear c25);(try clear c25b0);(try clear p25);(try clear q25);(try clear hx25);(try clear c27);(try clear p27);(try clear q27);(try clear hx27);(try clear c28);(try clear c28b0);(try clear p28);(try clear q28);(try clear hx28);(try clear c29);(try clear c29b0);(try clear c30);(try clear c30b0);(try clear p30);(try clear q30);(try clear hx30);(try clear c31);(try clear p31);(try clear q31);(try clear hx31);(try clear c34);(try clear c34b0);(try clear c35);(try clear c35b0);(try clear c36);(try clear c36b0);(try clear c37);(try clear c37b0);(try clear c38);(try clear c38b0);(try clear c39);(try clear c39b0);(try clear c40);(try clear c42);(try clear c47);(try clear c57);(try clear c61);(try clear c61b0);(try clear p64);(try clear c65);(try clear c65b0);(try clear c66);(try clear c66b0);(try clear c67);(try clear c67b0);(try clear c68);(try clear c68b0);(try clear c69);(try clear c69b0);(try clear c70);(try clear c70b0);(try clear hcz58_0);(try clear hcz58_1);(try clear hcz58_2);(try clear hcz58_3);(try clear hfz58_0);(try clear hfz58_1);(try clear hfz58_2);(try clear hfz58_3);(try clear hx256_0);(try clear hx275_0);(try clear hx279_0);(try clear hx280_0);(try clear hx281_0);(try clear hx282_0);(try clear hx300_0);(try clear hx301_0);(try clear hx310_0);(try clear hx311_0);(try clear hx312_0);(try clear p2);(try clear p25);(try clear p256);(try clear p27);(try clear p275);(try clear p279);(try clear p28);(try clear p280);(try clear p281);(try clear p282);(try clear p300);(try clear p301);(try clear p310);(try clear p311);(try clear p312);(try clear p6);(try clear p64);(try clear q1);(try clear q10);(try clear q2);(try clear q25);(try clear q256);(try clear q27);(try clear q275);(try clear q279);(try clear q28);(try clear q280);(try clear q281);(try clear q282);(try clear q300);(try clear q301);(try clear q310);(try clear q311);(try clear q312)
              obtain ⟨x23_5, x24_5, rfl, rfl, HA, HK5, HO_11, HO_18, HO_20, HO_294002, HO_294003, BK252, BK293, HB⟩ := hrel
              cases gk with
              | zero => exact absurd HA.out (by simp [spec_l13Reduce.l6])
              | succ k5 =>
               have H := HA.out
               clear HA
               simp only [spec_l13Reduce.l6] at H
               have HC72 := yA H
               clear H
               go_upto_region 38 with (fail)
               go_cut [138] (fun v138 wc => ∃ (kq : Nat) (x138_71 : Bool), v138 = .bool x138_71 ∧ Aside0 (spec_l13Reduce.j7 kq l2 l3 x11_2 x18_4 x19_3 x20_4 x21_4 (rd (rd_L1 l2 (rd x18_4 x19_3)) x21_4) x23_5 x24_5 x138_71 a0 a1 x294002_3 x294003_3 = some (r1, r2, r3, r4)) ∧ Aside0 (kq ≤ k5) ∧ Aside0 (Kd.R (Kd.int .i64) 3 wc w.heap.size (fun k_ => some k_ ≠ ((.slice (some ad300) x18_4.length co71) : Value).ownBlock ∧ some k_ ≠ (u20 : Value).ownBlock) u11 x11_2) ∧ Aside0 (Kd.R (Kd.int .i64) 3 wc w.heap.size (fun k_ => some k_ ≠ (u11 : Value).ownBlock ∧ some k_ ≠ (u20 : Value).ownBlock) (.slice (some ad300) x18_4.length co71) x18_4) ∧ Aside0 (Kd.R (Kd.int .i64) 3 wc w.heap.size (fun k_ => some k_ ≠ (u11 : Value).ownBlock ∧ some k_ ≠ ((.slice (some ad300) x18_4.length co71) : Value).ownBlock) u20 x20_4) ∧ Aside0 (Kd.S (Kd.slice 3 (Kd.int .i64)) 38 wc w.heap.size (fun k_ => some k_ ≠ (u11 : Value).ownBlock ∧ some k_ ≠ ((.slice (some ad300) x18_4.length co71) : Value).ownBlock ∧ some k_ ≠ (u20 : Value).ownBlock) u294002 x294002_3) ∧ Aside0 (Kd.R Kd.bool 4 wc w.heap.size (fun _ => True) u294003 x294003_3) ∧ Aside0 (wc.heap[gb252]? = some (.cells #[.int .i64 0, .int .i64 0, (.slice none 0 0), (.slice none 0 0)] 25 (0, 0))) ∧ Aside0 (wc.heap[gb293]? = some (.cells #[.int .i64 a0, .int .i64 a1, u294002, u294003] 25 (0, 0))) ∧ Aside0 (Below w.heap.size w wc))
               case first =>
                have H := HC72.out
                clear HC72
                by_cases c73 : x24_5 < (x18_4.length : Int)
                ·rw [if_pos c73] at H
                 have c73b0 : decide (x24_5 < (x18_4.length : Int)) = true := zH c73
                 clear c73
                 (first | rw [c73b0] | (simp only [i64_w, i32_w]; rw [c73b0]) | skip)
                 have H' := yA H
                 clear H
                 go_wp2
                 go_meet
                 case rel => exact ⟨_, (decide (x23_5 < 0)), (by first | rfl | (simp; done) | (simp [*]; done)), H', ⟨by have := HK1.out; have := HK2.out; have := HK3.out; have := HK4.out; have := HK5.out; first | omega | exact zT _⟩, ⟨mR HO_11.out⟩, ⟨mR HO_18.out⟩, ⟨mR HO_20.out⟩, ⟨mS HO_294002.out⟩, ⟨mR HO_294003.out⟩, ⟨mK BK252.out⟩, ⟨mK BK293.out⟩, ⟨by repeat (first | (with_reducible first | exact HB.out | apply yO | apply yN | apply yP | refine yQ ?_ GE252.out | refine yQ ?_ GE293.out) | exact HB.out)⟩⟩
                ·rw [if_neg c73] at H
                 have c73b0 : decide (x24_5 < (x18_4.length : Int)) = false := decide_eq_false c73
                 clear c73
                 (first | rw [c73b0] | (simp only [i64_w, i32_w]; rw [c73b0]) | skip)
                 have H' := yA H
                 clear H
                 go_wp2
                 go_meet
                 case rel => exact ⟨_, (false), (by first | rfl | (simp; done) | (simp [*]; done)), H', ⟨by have := HK1.out; have := HK2.out; have := HK3.out; have := HK4.out; have := HK5.out; first | omega | exact zT _⟩, ⟨mR HO_11.out⟩, ⟨mR HO_18.out⟩, ⟨mR HO_20.out⟩, ⟨mS HO_294002.out⟩, ⟨mR HO_294003.out⟩, ⟨mK BK252.out⟩, ⟨mK BK293.out⟩, ⟨by repeat (first | (with_reducible first | exact HB.out | apply yO | apply yN | apply yP | refine yQ ?_ GE252.out | refine yQ ?_ GE293.out) | exact HB.out)⟩⟩
               case rest =>
                clear HC72
                (try clear c1);(try clear q1);(try clear c2);(try clear p2);(try clear q2);(try clear hx2);(try clear c3);(try clear p3);(try clear q3);(try clear hx3);(try clear c4);(try clear c5);(try clear c6);(try clear p6);(try clear c7);(try clear c8);(try clear c8b0);(try clear c9);(try clear c9b0);(try clear c10);(try clear q10);(try clear c11);(try clear c12);(try clear c17);(try clear c25);(try clear c25b0);(try clear p25);(try clear q25);(try clear hx25);(try clear c27);(try clear p27);(try clear q27);(try clear hx27);(try clear c28);(try clear c28b0);(try clear p28);(try clear q28);(try clear hx28);(try clear c29);(try clear c29b0);(try clear c30);(try clear c30b0);(try clear p30);(try clear q30);(try clear hx30);(try clear c31);(try clear p31);(try clear q31);(try clear hx31);(try clear c34);(try clear c34b0);(try clear c35);(try clear c35b0);(try clear c36);(try clear c36b0);(try clear c37);(try clear c37b0);(try clear c38);(try clear c38b0);(try clear c39);(try clear c39b0);(try clear c40);(try clear c42);(try clear c47);(try clear c57);(try clear c61);(try clear c61b0);(try clear p64);(try clear c65);(try clear c65b0);(try clear c66);(try clear c66b0);(try clear c67);(try clear c67b0);(try clear c68);(try clear c68b0);(try clear c69);(try clear c69b0);(try clear c70);(try clear c70b0);(try clear c73);(try clear c73b0);(try clear hcz58_0);(try clear hcz58_1);(try clear hcz58_2);(try clear hcz58_3);(try clear hfz58_0);(try clear hfz58_1);(try clear hfz58_2);(try clear hfz58_3);(try clear hx256_0);(try clear hx275_0);(try clear hx279_0);(try clear hx280_0);(try clear hx281_0);(try clear hx282_0);(try clear hx300_0);(try clear hx301_0);(try clear hx310_0);(try clear hx311_0);(try clear hx312_0);(try clear p2);(try clear p25);(try clear p256);(try clear p27);(try clear p275);(try clear p279);(try clear p28);(try clear p280);(try clear p281);(try clear p282);(try clear p3);(try clear p30);(try clear p300);(try clear p301);(try clear p31);(try clear p310);(try clear p311);(try clear p312);(try clear p6);(try clear p64);(try clear q1);(try clear q10);(try clear q2);(try clear q25);(try clear q256);(try clear q27);(try clear q275);(try clear q279);(try clear q28);(try clear q280);(try clear q281);(try clear q282);(try clear q3);(try clear q30);(try clear q300);(try clear q301);(try clear q31);(try clear q310);(try clear q311);(try clear q312)
                obtain ⟨kq, x138_71, rfl, HA, HJ71, HO_11, HO_18, HO_20, HO_294002, HO_294003, BK252, BK293, HB⟩ := hcut
                cases kq with
                | zero => exact absurd HA.out (by simp [spec_l13Reduce.j7])
                | succ kj71 =>
                 have H := HA.out
                 clear HA
                 simp only [spec_l13Reduce.j7] at H
                 by_cases c74 : x138_71 = true
                 ·subst c74
                  replace H := iT H
                  obtain ⟨c75, H⟩ := iP H
                  have c75b0 : decide (0 ≤ x24_5) = true := zH c75
                  clear c75
                  obtain ⟨c76, H⟩ := iP H
                  have c76b0 : decide (x24_5 < (x18_4.length : Int)) = true := zH c76
                  clear c76
                  obtain ⟨c77, H⟩ := iP H
                  have c77b0 : decide (0 ≤ (rd x18_4 x24_5)) = true := zH c77
                  clear c77
                  obtain ⟨c78, H⟩ := iP H
                  have c78b0 : decide ((rd x18_4 x24_5) < (x11_2.length : Int)) = true := zH c78
                  clear c78
                  obtain ⟨c79, H⟩ := iP H
                  have c79b0 : decide (0 ≤ (rd (rd_L1 l2 (rd x18_4 x19_3)) x21_4)) = true := zH c79
                  clear c79
                  obtain ⟨c80, H⟩ := iP H
                  have c80b0 : decide ((rd (rd_L1 l2 (rd x18_4 x19_3)) x21_4) < (x11_2.length : Int)) = true := zH c80
                  clear c80
                  by_cases c81 : (rd x11_2 (rd x18_4 x24_5)) = (rd x11_2 (rd (rd_L1 l2 (rd x18_4 x19_3)) x21_4))
                  ·rw [if_pos c81] at H
                   have c81b0 : ((rd x11_2 (rd x18_4 x24_5)) == (rd x11_2 (rd (rd_L1 l2 (rd x18_4 x19_3)) x21_4))) = true := beq_iff_eq.mpr c81
                   have c81b1 : ((rd x11_2 (rd x18_4 x24_5)) != (rd x11_2 (rd (rd_L1 l2 (rd x18_4 x19_3)) x21_4))) = false := bne_eq_false_iff_eq.mpr c81
                   clear c81
                   have H' := yA H
                   clear H
                   try go_wp2
                   replace HO_11 := yA (yD HO_11.out)
                   replace HO_18 := yA (yD HO_18.out)
                   replace HO_20 := yA (yD HO_20.out)
                   replace HO_294002 := yA (yJ HO_294002.out)
                   replace HO_294003 := yA (yD HO_294003.out)
                   replace BK252 := yA (yT BK252.out)
                   replace BK293 := yA (yT BK293.out)
                   replace HB := yA (yP HB.out)
                   have p313 : 0 ≤ (x24_5 : Int) := zG (by assumption)
                   have q313 : x24_5 < (x18_4.length : Int) := zG (by assumption)
                   obtain ⟨ad313, e313, hx313_0⟩ := Kd.at_int (zN HO_18.out).2.2 x24_5 p313 q313
                   obtain rfl : ad300 = ad313 := (by injection e313)
                   replace p313 := eq_true p313
                   replace q313 := eq_true q313
                   obtain ⟨Ao83, co83, eo83⟩ := Kd.R_slice HO_11.out
                   (first | subst eo83 | (injection eo83 with f1_ f2_ f3_; have f4_ := f1_.symm; have f5_ := f3_.symm; clear f1_ f2_ f3_; subst f4_; subst f5_))
                   have p314 : 0 ≤ ((rd x18_4 x24_5) : Int) := zG (by assumption)
                   have q314 : (rd x18_4 x24_5) < (x11_2.length : Int) := zG (by assumption)
                   obtain ⟨ad314, e314, hx314_0⟩ := Kd.at_int (zN HO_11.out).2.2 (rd x18_4 x24_5) p314 q314
                   cases e314
                   replace p314 := eq_true p314
                   replace q314 := eq_true q314
                   have p315 : 0 ≤ ((rd (rd_L1 l2 (rd x18_4 x19_3)) x21_4) : Int) := zG (by assumption)
                   have q315 : (rd (rd_L1 l2 (rd x18_4 x19_3)) x21_4) < (x11_2.length : Int) := zG (by assumption)
                   obtain ⟨ad315, e315, hx315_0⟩ := Kd.at_int (zN HO_11.out).2.2 (rd (rd_L1 l2 (rd x18_4 x19_3)) x21_4) p315 q315
                   obtain rfl : ad314 = ad315 := (by injection e315)
                   replace p315 := eq_true p315
                   replace q315 := eq_true q315
                   refine start_ (n := 12) (S := fun w' => w'.cell? (ad300.add (x24_5).toNat) = some (.int .i64 (rd x18_4 x24_5)) ∧ w'.cell? (ad314.add ((rd x18_4 x24_5)).toNat) = some (.int .i64 (rd x11_2 (rd x18_4 x24_5))) ∧ w'.cell? (ad314.add ((rd (rd_L1 l2 (rd x18_4 x19_3)) x21_4)).toNat) = some (.int .i64 (rd x11_2 (rd (rd_L1 l2 (rd x18_4 x19_3)) x21_4)))) (ds := []) #[false, false, false, false, false, false, false, false, false, false, false, false] (by kernel_rfl) rfl rfl ⟨hx313_0, hx314_0, hx315_0⟩ (fun hHeld => ?_); refine with_tabW spec_l13Reduce.tab40 spec_l13Reduce.bits40 (fun HT_ HW_ => ?_)
                   generalize wc.drew = w82 at HO_11 HO_18 HO_20 HO_294002 HO_294003 BK252 BK293 HB hx313_0 hx314_0 hx315_0 hHeld ⊢
                   refine pure_ (i := 0) (N := some 141) (v := ?_) (a' := ?_) #[true, false, false, false, false, false, false, false, false, false, false, false] rfl rfl (any_of HT_.out (by kernel_rfl)) (fun _ _ _ h => h) (Or.inl ⟨by rfl, ?_⟩) ?_ ?_
                   rotate_left
                   ·intro w'
                    go_simp
                    with_reducible rfl
                   rotate_left
                   ·simp only [Act.put, zA, zB, zC, i64_w, i32_w]
                    rfl
                   refine pure_ (i := 1) (N := some 142) (v := ?_) (a' := ?_) #[true, true, false, false, false, false, false, false, false, false, false, false] rfl rfl (any_of HT_.out (by kernel_rfl)) (fun _ _ _ h => h) (Or.inl ⟨by rfl, ?_⟩) ?_ ?_
                   rotate_left
                   ·intro w'
                    go_simp
                    with_reducible rfl
                   rotate_left
                   ·simp only [Act.put, zA, zB, zC, i64_w, i32_w]
                    rfl
                   refine pure_ (i := 2) (N := some 143) (v := ?_) (a' := ?_) #[true, true, true, false, false, false, false, false, false, false, false, false] rfl rfl (any_of HT_.out (by kernel_rfl)) (fun _ _ _ h => h) (Or.inl ⟨by rfl, ?_⟩) ?_ ?_
                   rotate_left
                   ·intro w'
                    go_simp
                    with_reducible rfl
                   rotate_left
                   ·simp only [Act.put, zA, zB, zC, i64_w, i32_w]
                    rfl
                   refine pure_ (i := 3) (N := some 144) (v := ?_) (a' := ?_) #[true, true, true, true, false, false, false, false, false, false, false, false] rfl rfl (any_of HT_.out (by kernel_rfl)) (fun _ _ _ h => h) (Or.inl ⟨by rfl, ?_⟩) ?_ ?_
                   rotate_left
                   ·intro w'
                    go_simp
                    with_reducible rfl
                   rotate_left
                   ·simp only [Act.put, zA, zB, zC, i64_w, i32_w]
                    rfl
                   refine pure_ (i := 7) (N := some 148) (v := ?_) (a' := ?_) #[true, true, true, true, false, false, false, true, false, false, false, false] rfl rfl (any_of HT_.out (by kernel_rfl)) (fun _ _ _ h => h) (Or.inl ⟨by rfl, ?_⟩) ?_ ?_
                   rotate_left
                   ·intro w'
                    go_simp
                    with_reducible rfl
                   rotate_left
                   ·simp only [Act.put, zA, zB, zC, i64_w, i32_w]
                    rfl
                   refine pure_ (i := 8) (N := some 149) (v := ?_) (a' := ?_) #[true, true, true, true, false, false, false, true, true, false, false, false] rfl rfl (any_of HT_.out (by kernel_rfl)) (fun _ _ _ h => h) (Or.inl ⟨by rfl, ?_⟩) ?_ ?_
                   rotate_left
                   ·intro w'
                    go_simp
                    with_reducible rfl
                   rotate_left
                   ·simp only [Act.put, zA, zB, zC, i64_w, i32_w]
                    rfl
                   refine pure_ (i := 9) (N := some 150) (v := ?_) (a' := ?_) #[true, true, true, true, false, false, false, true, true, true, false, false] rfl rfl (any_of HT_.out (by kernel_rfl)) (fun _ _ _ h => h) (Or.inl ⟨by rfl, ?_⟩) ?_ ?_
                   rotate_left
                   ·intro w'
                    go_simp
                    with_reducible rfl
                   rotate_left
                   ·simp only [Act.put, zA, zB, zC, i64_w, i32_w]
                    rfl
                   refine take_ (i := 4) (N := some 145) (v := ?_) (a' := ?_) #[true, true, true, true, true, false, false, true, true, true, false, false] rfl rfl (take_ofW HT_.out HW_.out (by kernel_rfl)) (fun _ _ _ h => h) (Or.inl ⟨by rfl, ?_⟩) hHeld ?_ ?_
                   rotate_left
                   ·rintro w' ⟨s0, s1, s2⟩
                    go_simp
                    with_reducible rfl
                   rotate_left
                   ·simp only [Act.put, zA, zB, zC, i64_w, i32_w]
                    rfl
                   refine pure_ (i := 5) (N := some 146) (v := ?_) (a' := ?_) #[true, true, true, true, true, true, false, true, true, true, false, false] rfl rfl (any_of HT_.out (by kernel_rfl)) (fun _ _ _ h => h) (Or.inl ⟨by rfl, ?_⟩) ?_ ?_
                   rotate_left
                   ·intro w'
                    go_simp
                    with_reducible rfl
                   rotate_left
                   ·simp only [Act.put, zA, zB, zC, i64_w, i32_w]
                    rfl
                   refine take_ (i := 6) (N := some 147) (v := ?_) (a' := ?_) #[true, true, true, true, true, true, true, true, true, true, false, false] rfl rfl (take_ofW HT_.out HW_.out (by kernel_rfl)) (fun _ _ _ h => h) (Or.inl ⟨by rfl, ?_⟩) hHeld ?_ ?_
                   rotate_left
                   ·rintro w' ⟨s0, s1, s2⟩
                    go_simp
                    with_reducible rfl
                   rotate_left
                   ·simp only [Act.put, zA, zB, zC, i64_w, i32_w]
                    rfl
                   refine take_ (i := 10) (N := some 151) (v := ?_) (a' := ?_) #[true, true, true, true, true, true, true, true, true, true, true, false] rfl rfl (take_ofW HT_.out HW_.out (by kernel_rfl)) (fun _ _ _ h => h) (Or.inl ⟨by rfl, ?_⟩) hHeld ?_ ?_
                   rotate_left
                   ·rintro w' ⟨s0, s1, s2⟩
                    go_simp
                    with_reducible rfl
                   rotate_left
                   ·simp only [Act.put, zA, zB, zC, i64_w, i32_w]
                    rfl
                   refine pure_ (i := 11) (N := some 152) (v := ?_) (a' := ?_) #[true, true, true, true, true, true, true, true, true, true, true, true] rfl rfl (any_of HT_.out (by kernel_rfl)) (fun _ _ _ h => h) (Or.inl ⟨by rfl, ?_⟩) ?_ ?_
                   rotate_left
                   ·intro w'
                    go_simp
                    with_reducible rfl
                   rotate_left
                   ·simp only [Act.put, zA, zB, zC, i64_w, i32_w]
                    rfl
                   refine done_ (done_of HT_.out (by kernel_rfl)) ?_
                   try go_wp2
                   go_roundg kj71
                   case measure => have := HK1.out; have := HK2.out; have := HK3.out; have := HK4.out; have := HK5.out; have := HJ71.out; omega
                   case rel => exact ⟨(x24_5), (wrap64 (x24_5 + 1)), (by first | rfl | (simp; done) | (simp [*]; done)), (by first | rfl | (simp; done) | (simp [*]; done)), H', ⟨by have := HK1.out; have := HK2.out; have := HK3.out; have := HK4.out; have := HK5.out; have := HJ71.out; omega⟩, ⟨mR HO_11.out⟩, ⟨mR HO_18.out⟩, ⟨mR HO_20.out⟩, ⟨mS HO_294002.out⟩, ⟨mR HO_294003.out⟩, ⟨mK BK252.out⟩, ⟨mK BK293.out⟩, ⟨by repeat (first | (with_reducible first | exact HB.out | apply yO | apply yN | apply yP | refine yQ ?_ GE252.out | refine yQ ?_ GE293.out) | exact HB.out)⟩⟩
                  ·rw [if_neg c81] at H
                   have c81b0 : ((rd x11_2 (rd x18_4 x24_5)) == (rd x11_2 (rd (rd_L1 l2 (rd x18_4 x19_3)) x21_4))) = false := beq_eq_false_iff_ne.mpr c81
                   have c81b1 : ((rd x11_2 (rd x18_4 x24_5)) != (rd x11_2 (rd (rd_L1 l2 (rd x18_4 x19_3)) x21_4))) = true := bne_iff_ne.mpr c81
                   have H' := yA H
                   clear H
                   try go_wp2
                   replace HO_11 := yA (yD HO_11.out)
                   replace HO_18 := yA (yD HO_18.out)
                   replace HO_20 := yA (yD HO_20.out)
                   replace HO_294002 := yA (yJ HO_294002.out)
                   replace HO_294003 := yA (yD HO_294003.out)
                   replace BK252 := yA (yT BK252.out)
                   replace BK293 := yA (yT BK293.out)
                   replace HB := yA (yP HB.out)
                   have p313 : 0 ≤ (x24_5 : Int) := zG (by assumption)
                   have q313 : x24_5 < (x18_4.length : Int) := zG (by assumption)
                   obtain ⟨ad313, e313, hx313_0⟩ := Kd.at_int (zN HO_18.out).2.2 x24_5 p313 q313
                   obtain rfl : ad300 = ad313 := (by injection e313)
                   replace p313 := eq_true p313
                   replace q313 := eq_true q313
                   obtain ⟨Ao85, co85, eo85⟩ := Kd.R_slice HO_11.out
                   (first | subst eo85 | (injection eo85 with f1_ f2_ f3_; have f4_ := f1_.symm; have f5_ := f3_.symm; clear f1_ f2_ f3_; subst f4_; subst f5_))
                   have p314 : 0 ≤ ((rd x18_4 x24_5) : Int) := zG (by assumption)
                   have q314 : (rd x18_4 x24_5) < (x11_2.length : Int) := zG (by assumption)
                   obtain ⟨ad314, e314, hx314_0⟩ := Kd.at_int (zN HO_11.out).2.2 (rd x18_4 x24_5) p314 q314
                   cases e314
                   replace p314 := eq_true p314
                   replace q314 := eq_true q314
                   have p315 : 0 ≤ ((rd (rd_L1 l2 (rd x18_4 x19_3)) x21_4) : Int) := zG (by assumption)
                   have q315 : (rd (rd_L1 l2 (rd x18_4 x19_3)) x21_4) < (x11_2.length : Int) := zG (by assumption)
                   obtain ⟨ad315, e315, hx315_0⟩ := Kd.at_int (zN HO_11.out).2.2 (rd (rd_L1 l2 (rd x18_4 x19_3)) x21_4) p315 q315
                   obtain rfl : ad314 = ad315 := (by injection e315)
                   replace p315 := eq_true p315
                   replace q315 := eq_true q315
                   refine start_ (n := 12) (S := fun w' => w'.cell? (ad300.add (x24_5).toNat) = some (.int .i64 (rd x18_4 x24_5)) ∧ w'.cell? (ad314.add ((rd x18_4 x24_5)).toNat) = some (.int .i64 (rd x11_2 (rd x18_4 x24_5))) ∧ w'.cell? (ad314.add ((rd (rd_L1 l2 (rd x18_4 x19_3)) x21_4)).toNat) = some (.int .i64 (rd x11_2 (rd (rd_L1 l2 (rd x18_4 x19_3)) x21_4)))) (ds := []) #[false, false, false, false, false, false, false, false, false, false, false, false] (by kernel_rfl) rfl rfl ⟨hx313_0, hx314_0, hx315_0⟩ (fun hHeld => ?_); refine with_tabW spec_l13Reduce.tab40 spec_l13Reduce.bits40 (fun HT_ HW_ => ?_)
                   generalize wc.drew = w84 at HO_11 HO_18 HO_20 HO_294002 HO_294003 BK252 BK293 HB hx313_0 hx314_0 hx315_0 hHeld ⊢
                   refine pure_ (i := 0) (N := some 141) (v := ?_) (a' := ?_) #[true, false, false, false, false, false, false, false, false, false, false, false] rfl rfl (any_of HT_.out (by kernel_rfl)) (fun _ _ _ h => h) (Or.inl ⟨by rfl, ?_⟩) ?_ ?_
                   rotate_left
                   ·intro w'
                    go_simp
                    with_reducible rfl
                   rotate_left
                   ·simp only [Act.put, zA, zB, zC, i64_w, i32_w]
                    rfl
                   refine pure_ (i := 1) (N := some 142) (v := ?_) (a' := ?_) #[true, true, false, false, false, false, false, false, false, false, false, false] rfl rfl (any_of HT_.out (by kernel_rfl)) (fun _ _ _ h => h) (Or.inl ⟨by rfl, ?_⟩) ?_ ?_
                   rotate_left
                   ·intro w'
                    go_simp
                    with_reducible rfl
                   rotate_left
                   ·simp only [Act.put, zA, zB, zC, i64_w, i32_w]
                    rfl
                   refine pure_ (i := 2) (N := some 143) (v := ?_) (a' := ?_) #[true, true, true, false, false, false, false, false, false, false, false, false] rfl rfl (any_of HT_.out (by kernel_rfl)) (fun _ _ _ h => h) (Or.inl ⟨by rfl, ?_⟩) ?_ ?_
                   rotate_left
                   ·intro w'
                    go_simp
                    with_reducible rfl
                   rotate_left
                   ·simp only [Act.put, zA, zB, zC, i64_w, i32_w]
                    rfl
                   refine pure_ (i := 3) (N := some 144) (v := ?_) (a' := ?_) #[true, true, true, true, false, false, false, false, false, false, false, false] rfl rfl (any_of HT_.out (by kernel_rfl)) (fun _ _ _ h => h) (Or.inl ⟨by rfl, ?_⟩) ?_ ?_
                   rotate_left
                   ·intro w'
                    go_simp
                    with_reducible rfl
                   rotate_left
                   ·simp only [Act.put, zA, zB, zC, i64_w, i32_w]
                    rfl
                   refine pure_ (i := 7) (N := some 148) (v := ?_) (a' := ?_) #[true, true, true, true, false, false, false, true, false, false, false, false] rfl rfl (any_of HT_.out (by kernel_rfl)) (fun _ _ _ h => h) (Or.inl ⟨by rfl, ?_⟩) ?_ ?_
                   rotate_left
                   ·intro w'
                    go_simp
                    with_reducible rfl
                   rotate_left
                   ·simp only [Act.put, zA, zB, zC, i64_w, i32_w]
                    rfl
                   refine pure_ (i := 8) (N := some 149) (v := ?_) (a' := ?_) #[true, true, true, true, false, false, false, true, true, false, false, false] rfl rfl (any_of HT_.out (by kernel_rfl)) (fun _ _ _ h => h) (Or.inl ⟨by rfl, ?_⟩) ?_ ?_
                   rotate_left
                   ·intro w'
                    go_simp
                    with_reducible rfl
                   rotate_left
                   ·simp only [Act.put, zA, zB, zC, i64_w, i32_w]
                    rfl
                   refine pure_ (i := 9) (N := some 150) (v := ?_) (a' := ?_) #[true, true, true, true, false, false, false, true, true, true, false, false] rfl rfl (any_of HT_.out (by kernel_rfl)) (fun _ _ _ h => h) (Or.inl ⟨by rfl, ?_⟩) ?_ ?_
                   rotate_left
                   ·intro w'
                    go_simp
                    with_reducible rfl
                   rotate_left
                   ·simp only [Act.put, zA, zB, zC, i64_w, i32_w]
                    rfl
                   refine take_ (i := 4) (N := some 145) (v := ?_) (a' := ?_) #[true, true, true, true, true, false, false, true, true, true, false, false] rfl rfl (take_ofW HT_.out HW_.out (by kernel_rfl)) (fun _ _ _ h => h) (Or.inl ⟨by rfl, ?_⟩) hHeld ?_ ?_
                   rotate_left
                   ·rintro w' ⟨s0, s1, s2⟩
                    go_simp
                    with_reducible rfl
                   rotate_left
                   ·simp only [Act.put, zA, zB, zC, i64_w, i32_w]
                    rfl
                   refine pure_ (i := 5) (N := some 146) (v := ?_) (a' := ?_) #[true, true, true, true, true, true, false, true, true, true, false, false] rfl rfl (any_of HT_.out (by kernel_rfl)) (fun _ _ _ h => h) (Or.inl ⟨by rfl, ?_⟩) ?_ ?_
                   rotate_left
                   ·intro w'
                    go_simp
                    with_reducible rfl
                   rotate_left
                   ·simp only [Act.put, zA, zB, zC, i64_w, i32_w]
                    rfl
                   refine take_ (i := 6) (N := some 147) (v := ?_) (a' := ?_) #[true, true, true, true, true, true, true, true, true, true, false, false] rfl rfl (take_ofW HT_.out HW_.out (by kernel_rfl)) (fun _ _ _ h => h) (Or.inl ⟨by rfl, ?_⟩) hHeld ?_ ?_
                   rotate_left
                   ·rintro w' ⟨s0, s1, s2⟩
                    go_simp
                    with_reducible rfl
                   rotate_left
                   ·simp only [Act.put, zA, zB, zC, i64_w, i32_w]
                    rfl
                   refine take_ (i := 10) (N := some 151) (v := ?_) (a' := ?_) #[true, true, true, true, true, true, true, true, true, true, true, false] rfl rfl (take_ofW HT_.out HW_.out (by kernel_rfl)) (fun _ _ _ h => h) (Or.inl ⟨by rfl, ?_⟩) hHeld ?_ ?_
                   rotate_left
                   ·rintro w' ⟨s0, s1, s2⟩
                    go_simp
                    with_reducible rfl
                   rotate_left
                   ·simp only [Act.put, zA, zB, zC, i64_w, i32_w]
                    rfl
                   refine pure_ (i := 11) (N := some 152) (v := ?_) (a' := ?_) #[true, true, true, true, true, true, true, true, true, true, true, true] rfl rfl (any_of HT_.out (by kernel_rfl)) (fun _ _ _ h => h) (Or.inl ⟨by rfl, ?_⟩) ?_ ?_
                   rotate_left
                   ·intro w'
                    go_simp
                    with_reducible rfl
                   rotate_left
                   ·simp only [Act.put, zA, zB, zC, i64_w, i32_w]
                    rfl
                   refine done_ (done_of HT_.out (by kernel_rfl)) ?_
                   try go_wp2
                   go_roundg kj71
                   case measure => have := HK1.out; have := HK2.out; have := HK3.out; have := HK4.out; have := HK5.out; have := HJ71.out; omega
                   case rel => exact ⟨(x23_5), (wrap64 (x24_5 + 1)), (by first | rfl | (simp; done) | (simp [*]; done)), (by first | rfl | (simp; done) | (simp [*]; done)), H', ⟨by have := HK1.out; have := HK2.out; have := HK3.out; have := HK4.out; have := HK5.out; have := HJ71.out; omega⟩, ⟨mR HO_11.out⟩, ⟨mR HO_18.out⟩, ⟨mR HO_20.out⟩, ⟨mS HO_294002.out⟩, ⟨mR HO_294003.out⟩, ⟨mK BK252.out⟩, ⟨mK BK293.out⟩, ⟨by repeat (first | (with_reducible first | exact HB.out | apply yO | apply yN | apply yP | refine yQ ?_ GE252.out | refine yQ ?_ GE293.out) | exact HB.out)⟩⟩
                 ·replace c74 := Bool.eq_false_iff.mpr c74
                  subst c74
                  replace H := iF H
                  by_cases c86 : x23_5 < 0
                  ·rw [if_pos c86] at H
                   have c86b0 : decide (x23_5 < 0) = true := zH c86
                   clear c86
                   obtain ⟨c87, H⟩ := iP H
                   have LMc87 := yA c87
                   clear c87
                   (first | ((with_reducible replace H := bS H); obtain ⟨y316, Ny316, H⟩ := H) | (obtain ⟨y316, Ny316⟩ : ∃ y_ : List Int, y_ = (x18_4 ++ [(rd (rd_L1 l2 (rd x18_4 x19_3)) x21_4)]) := ⟨_, rfl⟩; rw [← Ny316] at H; replace Ny316 := yA Ny316))
                   obtain ⟨c88, H⟩ := iP H
                   have LMc88 := yA c88
                   clear c88
                   (first | ((with_reducible replace H := bS H); obtain ⟨y319, Ny319, H⟩ := H) | (obtain ⟨y319, Ny319⟩ : ∃ y_ : List Int, y_ = (x20_4 ++ [(x18_4.length : Int)]) := ⟨_, rfl⟩; rw [← Ny319] at H; replace Ny319 := yA Ny319))
                   have H' := yA H
                   clear H
                   go_wp2_with (first | ((with_reducible refine gate_builtin (b := .append) (xs := #[.tmp 158, .tmp 160]) rfl ?_); at_builtin; refine Kd.R_append (Kd.int .i64) (w0 := w) w.heap.size rfl (.tmp 158) (.tmp 160) 38 3 (.int .i64 0) 8 rfl Try.underlying38 info3 rfl (by decide) (by omega) (.slice (some ad300) x18_4.length co71) x18_4 (rd (rd_L1 l2 (rd x18_4 x19_3)) x21_4) [.int .i64 (rd (rd_L1 l2 (rd x18_4 x19_3)) x21_4)] (fun k_ => some k_ ≠ (u11 : Value).ownBlock ∧ some k_ ≠ (u20 : Value).ownBlock) (fun _ => False) rfl rfl ?aP (fun _ hk => hk.elim) ?aF ?aO ?aB ?aS ?aL ?_; (case aP => exact rfl); (case aB => exact (by with_reducible repeat first | exact HB.out | apply yO | apply yN | apply yP | refine yQ ?_ GE252.out | refine yQ ?_ GE293.out)); (case aF => exact (fun k_ hk => ⟨Kd.fresh' (yZ (mR HO_11.out)) k_ hk, Kd.fresh' (yZ (mR HO_20.out)) k_ hk⟩)); (case aO => exact (mR HO_18.out)); (case aS => exact (yX (by with_reducible repeat first | exact HB.out | apply yO | apply yN | apply yP | refine yQ ?_ GE252.out | refine yQ ?_ GE293.out))); (case aL => have := LMc87.out; omega); intro v317 w89 ho hb hg hat; rw [← Ny316.out] at ho; replace HO_11 := yA (Kd.R_after (ok := (fun k_ => some k_ ≠ (u20 : Value).ownBlock)) (mR (zP HO_11.out (fun _ hk => ⟨hk.2, hk.1⟩))) hg hat); replace HO_20 := yA (Kd.R_after (ok := (fun k_ => some k_ ≠ (u11 : Value).ownBlock)) (mR HO_20.out) hg hat); replace HO_294002 := yA (Kd.S_after (ok := (fun k_ => some k_ ≠ (u11 : Value).ownBlock ∧ some k_ ≠ (u20 : Value).ownBlock)) (mS (Kd.S_mono HO_294002.out (fun _ hk => ⟨⟨hk.1, hk.2.2⟩, hk.2.1⟩))) hg hat); replace HO_294003 := yA (Kd.R_over' (mR HO_294003.out) (Kd.R_typed (mR HO_18.out)) (by decide) hg); replace BK252 := yA (blk_grown (g := gb252) (o := .cells #[.int .i64 0, .int .i64 0, .slice none 0 0, .slice none 0 0] 25 (0, 0)) (mK BK252.out) hg (zW HO_18.out BK252.out (by decide))); replace BK293 := yA (blk_grown (g := gb293) (o := .cells #[.int .i64 a0, .int .i64 a1, u294002, u294003] 25 (0, 0)) (mK BK293.out) hg (zW HO_18.out BK293.out (by decide))); replace HB := yA (hb); have HO318 := yA (ho); clear HO_18; clear ho hb hg hat) | ((with_reducible refine gate_builtin (b := .append) (xs := #[.tmp 162, .tmp 164]) rfl ?_); at_builtin; refine Kd.R_append (Kd.int .i64) (w0 := w) w.heap.size rfl (.tmp 162) (.tmp 164) 38 3 (.int .i64 0) 8 rfl Try.underlying38 info3 rfl (by decide) (by omega) u20 x20_4 (x18_4.length : Int) [.int .i64 (x18_4.length : Int)] (fun k_ => some k_ ≠ (u11 : Value).ownBlock ∧ some k_ ≠ (v317 : Value).ownBlock) (fun _ => False) rfl rfl ?aP (fun _ hk => hk.elim) ?aF ?aO ?aB ?aS ?aL ?_; (case aP => exact rfl); (case aB => exact (by with_reducible repeat first | exact HB.out | apply yO | apply yN | apply yP | refine yQ ?_ GE252.out | refine yQ ?_ GE293.out)); (case aF => exact (fun k_ hk => ⟨Kd.fresh' (yZ (mR HO_11.out)) k_ hk, Kd.fresh' (yZ (mR HO318.out)) k_ hk⟩)); (case aO => exact (mR HO_20.out)); (case aS => exact (yX (by with_reducible repeat first | exact HB.out | apply yO | apply yN | apply yP | refine yQ ?_ GE252.out | refine yQ ?_ GE293.out))); (case aL => have := LMc88.out; omega); intro v320 w90 ho hb hg hat; rw [← Ny319.out] at ho; replace HO_11 := yA (Kd.R_after (ok := (fun k_ => some k_ ≠ (v317 : Value).ownBlock)) (mR (zP HO_11.out (fun _ hk => ⟨hk.2, hk.1⟩))) hg hat); replace HO_294002 := yA (Kd.S_after (ok := (fun k_ => some k_ ≠ (u11 : Value).ownBlock ∧ some k_ ≠ (v317 : Value).ownBlock)) (mS (Kd.S_mono HO_294002.out (fun _ hk => ⟨⟨hk.1.1, hk.2⟩, hk.1.2⟩))) hg hat); replace HO_294003 := yA (Kd.R_over' (mR HO_294003.out) (Kd.R_typed (mR HO_20.out)) (by decide) hg); replace BK252 := yA (blk_grown (g := gb252) (o := .cells #[.int .i64 0, .int .i64 0, .slice none 0 0, .slice none 0 0] 25 (0, 0)) (mK BK252.out) hg (zW HO_20.out BK252.out (by decide))); replace BK293 := yA (blk_grown (g := gb293) (o := .cells #[.int .i64 a0, .int .i64 a1, u294002, u294003] 25 (0, 0)) (mK BK293.out) hg (zW HO_20.out BK293.out (by decide))); replace HO318 := yA (Kd.R_after (ok := (fun k_ => some k_ ≠ (u11 : Value).ownBlock)) (mR HO318.out) hg hat); replace HB := yA (hb); have HO321 := yA (ho); clear HO_20; clear ho hb hg hat))
                   go_roundg kj71
                   case measure => have := HK1.out; have := HK2.out; have := HK3.out; have := HK4.out; have := HK5.out; have := HJ71.out; omega
                   case rel => exact ⟨(y316), (y319), (wrap64 (x21_4 + 1)), (by first | rfl | (simp; done) | (simp [*]; done)), H', ⟨by have := HK1.out; have := HK2.out; have := HK3.out; have := HK4.out; have := HK5.out; have := HJ71.out; omega⟩, ⟨mR HO_11.out⟩, ⟨mR HO318.out⟩, ⟨mR HO321.out⟩, ⟨by (with_reducible repeat (first | apply yH | apply yI | apply yJ)); exact Kd.S_mono HO_294002.out (fun _ hk => ⟨hk.1.1, ⟨hk.1.2, hk.2⟩⟩)⟩, ⟨mR HO_294003.out⟩, ⟨mK BK252.out⟩, ⟨mK BK293.out⟩, ⟨by repeat (first | (with_reducible first | exact HB.out | apply yO | apply yN | apply yP | refine yQ ?_ GE252.out | refine yQ ?_ GE293.out) | exact HB.out)⟩⟩
                  ·rw [if_neg c86] at H
                   have c86b0 : decide (x23_5 < 0) = false := decide_eq_false c86
                   clear c86
                   obtain ⟨c91, H⟩ := iP H
                   have LMc91 := yA c91
                   clear c91
                   (first | ((with_reducible replace H := bS H); obtain ⟨y322, Ny322, H⟩ := H) | (obtain ⟨y322, Ny322⟩ : ∃ y_ : List Int, y_ = (x20_4 ++ [x23_5]) := ⟨_, rfl⟩; rw [← Ny322] at H; replace Ny322 := yA Ny322))
                   have H' := yA H
                   clear H
                   go_wp2_with (first | ((with_reducible refine gate_builtin (b := .append) (xs := #[.tmp 162, .tmp 164]) rfl ?_); at_builtin; refine Kd.R_append (Kd.int .i64) (w0 := w) w.heap.size rfl (.tmp 162) (.tmp 164) 38 3 (.int .i64 0) 8 rfl Try.underlying38 info3 rfl (by decide) (by omega) u20 x20_4 x23_5 [.int .i64 x23_5] (fun k_ => some k_ ≠ (u11 : Value).ownBlock ∧ some k_ ≠ (.slice (some ad300) x18_4.length co71 : Value).ownBlock) (fun _ => False) rfl rfl ?aP (fun _ hk => hk.elim) ?aF ?aO ?aB ?aS ?aL ?_; (case aP => exact rfl); (case aB => exact (by with_reducible repeat first | exact HB.out | apply yO | apply yN | apply yP | refine yQ ?_ GE252.out | refine yQ ?_ GE293.out)); (case aF => exact (fun k_ hk => ⟨Kd.fresh' (yZ (mR HO_11.out)) k_ hk, Kd.fresh' (yZ (mR HO_18.out)) k_ hk⟩)); (case aO => exact (mR HO_20.out)); (case aS => exact (yX (by with_reducible repeat first | exact HB.out | apply yO | apply yN | apply yP | refine yQ ?_ GE252.out | refine yQ ?_ GE293.out))); (case aL => have := LMc91.out; omega); intro v323 w92 ho hb hg hat; rw [← Ny322.out] at ho; replace HO_11 := yA (Kd.R_after (ok := (fun k_ => some k_ ≠ (.slice (some ad300) x18_4.length co71 : Value).ownBlock)) (mR HO_11.out) hg hat); replace HO_18 := yA (Kd.R_after (ok := (fun k_ => some k_ ≠ (u11 : Value).ownBlock)) (mR HO_18.out) hg hat); replace HO_294002 := yA (Kd.S_after (ok := (fun k_ => some k_ ≠ (u11 : Value).ownBlock ∧ some k_ ≠ (.slice (some ad300) x18_4.length co71 : Value).ownBlock)) (mS (Kd.S_mono HO_294002.out (fun _ hk => ⟨⟨hk.1, hk.2.1⟩, hk.2.2⟩))) hg hat); replace HO_294003 := yA (Kd.R_over' (mR HO_294003.out) (Kd.R_typed (mR HO_20.out)) (by decide) hg); replace BK252 := yA (blk_grown (g := gb252) (o := .cells #[.int .i64 0, .int .i64 0, .slice none 0 0, .slice none 0 0] 25 (0, 0)) (mK BK252.out) hg (zW HO_20.out BK252.out (by decide))); replace BK293 := yA (blk_grown (g := gb293) (o := .cells #[.int .i64 a0, .int .i64 a1, u294002, u294003] 25 (0, 0)) (mK BK293.out) hg (zW HO_20.out BK293.out (by decide))); replace HB := yA (hb); have HO324 := yA (ho); clear HO_20; clear ho hb hg hat))
                   go_roundg kj71
                   case measure => have := HK1.out; have := HK2.out; have := HK3.out; have := HK4.out; have := HK5.out; have := HJ71.out; omega
                   case rel => exact ⟨(x18_4), (y322), (wrap64 (x21_4 + 1)), (by first | rfl | (simp; done) | (simp [*]; done)), H', ⟨by have := HK1.out; have := HK2.out; have := HK3.out; have := HK4.out; have := HK5.out; have := HJ71.out; omega⟩, ⟨mR HO_11.out⟩, ⟨mR HO_18.out⟩, ⟨mR HO324.out⟩, ⟨by (with_reducible repeat (first | apply yH | apply yI | apply yJ)); exact Kd.S_mono HO_294002.out (fun _ hk => ⟨hk.1.1, ⟨hk.1.2, hk.2⟩⟩)⟩, ⟨mR HO_294003.out⟩, ⟨mK BK252.out⟩, ⟨mK BK293.out⟩, ⟨by repeat (first | (with_reducible first | exact HB.out | apply yO | apply yN | apply yP | refine yQ ?_ GE252.out | refine yQ ?_ GE293.out) | exact HB.out)⟩⟩
            ·rw [if_neg c69] at H
             have c69b0 : decide (x21_4 < ((rd_L1 l2 (rd x18_4 x19_3)).length : Int)) = false := decide_eq_false c69
             clear c69
             obtain ⟨c93, H⟩ := iP H
             have LMc93 := yA c93
             clear c93
             (first | ((with_reducible replace H := bS H); obtain ⟨y302, Ny302, H⟩ := H) | (obtain ⟨y302, Ny302⟩ : ∃ y_ : List (List Int), y_ = (x294002_3 ++ [x20_4]) := ⟨_, rfl⟩; rw [← Ny302] at H; replace Ny302 := yA Ny302))
             obtain ⟨c94, H⟩ := iP H
             have c94b0 : decide ((rd x18_4 x19_3) < (l3.length : Int)) = true := zH c94
             clear c94
             obtain ⟨c95, H⟩ := iP H
             have LMc95 := yA c95
             clear c95
             (first | ((with_reducible replace H := bS H); obtain ⟨y307, Ny307, H⟩ := H) | (obtain ⟨y307, Ny307⟩ : ∃ y_ : List Bool, y_ = (x294003_3 ++ [rdOf false l3 (rd x18_4 x19_3)]) := ⟨_, rfl⟩; rw [← Ny307] at H; replace Ny307 := yA Ny307))
             have H' := yA H
             clear H
             obtain ⟨Ao96, co96, eo96⟩ := Kd.R_slice HO_18.out
             subst eo96
             have p300 : 0 ≤ (x19_3 : Int) := zG (by assumption)
             have q300 : x19_3 < (x18_4.length : Int) := zG (by assumption)
             obtain ⟨ad300, e300, hx300_0⟩ := Kd.at_int (zN HO_18.out).2.2 x19_3 p300 q300
             cases e300
             replace p300 := eq_true p300
             replace q300 := eq_true q300
             have p301 : 0 ≤ ((rd x18_4 x19_3) : Int) := zG (by assumption)
             have q301 : (rd x18_4 x19_3) < (l2.length : Int) := zG (by assumption)
             obtain ⟨ad301, A301_0, c301_0, e301, hx301_0, hl301_0, hi301_0⟩ := at_L1 HR2.out (rd x18_4 x19_3) p301 q301
             cases e301
             try replace hx301_0 := (HB.out.cell (zE w _ hx301_0)).trans hx301_0
             have HR301_0 := yA hi301_0
             have HC301_0 := yA hl301_0
             clear hi301_0 hl301_0
             replace p301 := eq_true p301
             replace q301 := eq_true q301
             have hnb97 := NB293_252.out
             have hnc97 := NB252_293.out
             obtain ⟨hcz98_0, hcz98_1, hcz98_2, hcz98_3⟩ := cz4 BK293.out
             obtain ⟨hfz98_0, hfz98_1, hfz98_2, hfz98_3⟩ := fz4 BK293.out
             obtain ⟨Ao100, co100, eo100⟩ := Kd.R_slice HO_20.out
             subst eo100
             try go_wp2_with (first | ((with_reducible refine gate_builtin (b := .append) (xs := #[.tmp 167, .tmp 169]) rfl ?_); at_builtin; refine Kd.S_append (Kd.slice 3 (Kd.int .i64)) (w0 := w) w.heap.size rfl (.tmp 167) (.tmp 169) 22 38 (.slice none 0 0) 24 rfl Try.underlying22 info38 rfl (by decide) (by omega) u294002 x294002_3 x20_4 [.slice Ao100 x20_4.length co100] (fun k_ => some k_ ≠ (u11 : Value).ownBlock ∧ some k_ ≠ (.slice (some ad300) x18_4.length co96 : Value).ownBlock) (fun k_ => some k_ = (.slice Ao100 x20_4.length co100 : Value).ownBlock) rfl rfl ?aP (fun k_ hk_ => ((zP (ok' := fun k_ => ((fun k_ => some k_ ≠ (u11 : Value).ownBlock ∧ some k_ ≠ (.slice (some ad300) x18_4.length co96 : Value).ownBlock)) k_ ∧ some k_ ≠ (u294002 : Value).ownBlock) (Kd.R_apart' (HO_20.out) (Kd.S_typed HO_294002.out) (by decide)) (fun k_ hk => ⟨⟨hk.1.1, hk.1.2⟩, hk.2⟩))).1 k_ hk_.symm) ?aF ?aO ?aB ?aS ?aL ?_; (case aP => exact Kd.M_row (zP (Kd.R_tight rfl (zP (ok' := fun k_ => ((fun k_ => some k_ ≠ (u11 : Value).ownBlock ∧ some k_ ≠ (.slice (some ad300) x18_4.length co96 : Value).ownBlock)) k_ ∧ some k_ ≠ (u294002 : Value).ownBlock) (Kd.R_apart' (HO_20.out) (Kd.S_typed HO_294002.out) (by decide)) (fun k_ hk => ⟨⟨hk.1.1, hk.1.2⟩, hk.2⟩))) (fun _ h_ => h_))); (case aB => exact (by with_reducible repeat first | exact HB.out | apply yO | apply yN | apply yP | refine yQ ?_ GE252.out | refine yQ ?_ GE293.out)); (case aF => exact (fun k_ hk => ⟨Kd.fresh' (yZ (mR HO_11.out)) k_ hk, Kd.fresh' (yZ (mR HO_18.out)) k_ hk⟩)); (case aO => exact (mS (Kd.S_mono HO_294002.out (fun k_ hk => ⟨⟨hk.1, hk.2.1⟩, fun e_ => hk.2.2 e_⟩)))); (case aS => exact (yX (by with_reducible repeat first | exact HB.out | apply yO | apply yN | apply yP | refine yQ ?_ GE252.out | refine yQ ?_ GE293.out))); (case aL => have := LMc93.out; omega); intro v303 w99 ho hb hg hat; rw [← Ny302.out] at ho; replace HO_11 := yA (Kd.R_over' (mR HO_11.out) (Kd.S_typed (mS HO_294002.out)) (by decide) hg); replace HO_18 := yA (Kd.R_over' (mR HO_18.out) (Kd.S_typed (mS HO_294002.out)) (by decide) hg); replace HO_294003 := yA (Kd.R_over' (mR HO_294003.out) (Kd.S_typed (mS HO_294002.out)) (by decide) hg); replace BK252 := yA (blk_grown (g := gb252) (o := .cells #[.int .i64 0, .int .i64 0, .slice none 0 0, .slice none 0 0] 25 (0, 0)) (mK BK252.out) hg (Kd.S_ne HO_294002.out BK252.out (by decide))); replace BK293 := yA (blk_grown (g := gb293) (o := .cells #[.int .i64 a0, .int .i64 a1, u294002, u294003] 25 (0, 0)) (mK BK293.out) hg (Kd.S_ne HO_294002.out BK293.out (by decide))); replace HB := yA (hb); have HO304 := yA (ho); clear HO_294002 HO_20; clear ho hb hg hat; obtain ⟨Ao101, co101, eo101⟩ := Kd.S_slice HO304.out; subst eo101; have hcz102_0 : w99.cell? ⟨gb293, 0, none⟩ = some (.int .i64 a0) := (yV BK293.out 0).trans rfl; have hcz102_1 : w99.cell? ⟨gb293, 1, none⟩ = some (.int .i64 a1) := (yV BK293.out 1).trans rfl; have hcz102_2 : w99.cell? ⟨gb293, 2, none⟩ = some (u294002) := (yV BK293.out 2).trans rfl; have hcz102_3 : w99.cell? ⟨gb293, 3, none⟩ = some (u294003) := (yV BK293.out 3).trans rfl; have hfz102_0 := yW BK293.out 0; have hfz102_1 := yW BK293.out 1; have hfz102_2 := yW BK293.out 2; have hfz102_3 := yW BK293.out 3))
             have n0_ : Aside0 (Kd.R (Kd.int .i64) 3 (w99.setCell ⟨gb293, 2, none⟩ (.slice Ao101 y302.length co101)) w.heap.size (fun k_ => some k_ ≠ (.slice (some ad300) x18_4.length co96 : Value).ownBlock) u11 x11_2) := ⟨by (with_reducible repeat (first | apply yB | apply yC | apply yD)); exact zP (zQ (p := ⟨gb293, 2, none⟩) (zR HO_11.out BK293.out (by decide)) (fun _ hk => hk.2) (.slice Ao101 y302.length co101)) (fun _ hk => hk.1.1)⟩
             have n1_ : Aside0 (Kd.R (Kd.int .i64) 3 (w99.setCell ⟨gb293, 2, none⟩ (.slice Ao101 y302.length co101)) w.heap.size (fun k_ => some k_ ≠ (u11 : Value).ownBlock) (.slice (some ad300) x18_4.length co96) x18_4) := ⟨by (with_reducible repeat (first | apply yB | apply yC | apply yD)); exact zP (zQ (p := ⟨gb293, 2, none⟩) (zR HO_18.out BK293.out (by decide)) (fun _ hk => hk.2) (.slice Ao101 y302.length co101)) (fun _ hk => hk.1.1)⟩
             have n2_ : Aside0 (Kd.R Kd.bool 4 (w99.setCell ⟨gb293, 2, none⟩ (.slice Ao101 y302.length co101)) w.heap.size (fun _ => True) u294003 x294003_3) := ⟨by (with_reducible repeat (first | apply yB | apply yC | apply yD)); exact zP (zQ (p := ⟨gb293, 2, none⟩) (zR HO_294003.out BK293.out (by decide)) (fun _ hk => hk.2) (.slice Ao101 y302.length co101)) (fun _ hk => trivial)⟩
             have n3_ : Aside0 (Kd.S (Kd.slice 3 (Kd.int .i64)) 38 (w99.setCell ⟨gb293, 2, none⟩ (.slice Ao101 y302.length co101)) w.heap.size (fun k_ => some k_ ≠ (u11 : Value).ownBlock ∧ some k_ ≠ (.slice (some ad300) x18_4.length co96 : Value).ownBlock) (.slice Ao101 y302.length co101) y302) := ⟨by (with_reducible repeat (first | apply yH | apply yI | apply yJ)); exact Kd.S_mono (Kd.S_far (p := ⟨gb293, 2, none⟩) (Kd.S_types HO304.out BK293.out (by decide)) (fun _ hk => hk.2) (.slice Ao101 y302.length co101)) (fun _ hk => ⟨hk.1.1, hk.1.2⟩)⟩
             have n4_ : Aside0 ((w99.setCell ⟨gb293, 2, none⟩ (.slice Ao101 y302.length co101)).heap[gb252]? = some (.cells #[.int .i64 0, .int .i64 0, .slice none 0 0, .slice none 0 0] 25 (0, 0))) := ⟨by (with_reducible repeat (first | refine yS ?_ _ | refine yT ?_ | refine yR ?_ _)); refine blk_far ?_ NB252_293.out _; (with_reducible repeat (first | refine yS ?_ _ | refine yT ?_ | refine yR ?_ _)); exact BK252.out⟩
             have n5_ : Aside0 ((w99.setCell ⟨gb293, 2, none⟩ (.slice Ao101 y302.length co101)).heap[gb293]? = some (.cells #[.int .i64 a0, .int .i64 a1, .slice Ao101 y302.length co101, u294003] 25 (0, 0))) := ⟨by (with_reducible repeat (first | refine yS ?_ _ | refine yT ?_ | refine yR ?_ _)); refine blk_put (cs := #[.int .i64 a0, .int .i64 a1, u294002, u294003]) ?_ 2 _ rfl; (with_reducible repeat (first | refine yS ?_ _ | refine yT ?_ | refine yR ?_ _)); exact BK293.out⟩
             have n6_ : Aside0 (Below w.heap.size w (w99.setCell ⟨gb293, 2, none⟩ (.slice Ao101 y302.length co101))) := ⟨by repeat (first | (with_reducible first | exact HB.out | apply yO | apply yN | apply yP | refine yQ ?_ GE252.out | refine yQ ?_ GE293.out) | exact HB.out)⟩
             (try clear HO_11)
             (try clear HO_18)
             (try clear HO_294003)
             (try clear HO304)
             (try clear BK252)
             (try clear BK293)
             (try clear HB)
             generalize (w99.setCell ⟨gb293, 2, none⟩ (.slice Ao101 y302.length co101)) = w103 at n0_ n1_ n2_ n3_ n4_ n5_ n6_ ⊢
             have HO_11 := n0_
             have HO_18 := n1_
             have HO_294003 := n2_
             have HO304 := n3_
             have BK252 := n4_
             have BK293 := n5_
             have HB := n6_
             clear n0_ n1_ n2_ n3_ n4_ n5_ n6_
             replace HO_11 := yA (yD HO_11.out)
             replace HO_18 := yA (yD HO_18.out)
             replace HO_294003 := yA (yD HO_294003.out)
             replace HO304 := yA (yJ HO304.out)
             replace BK252 := yA (yT BK252.out)
             replace BK293 := yA (yT BK293.out)
             replace HB := yA (yP HB.out)
             have p305 : 0 ≤ (x19_3 : Int) := zG (by assumption)
             have q305 : x19_3 < (x18_4.length : Int) := zG (by assumption)
             obtain ⟨ad305, e305, hx305_0⟩ := Kd.at_int (zN HO_18.out).2.2 x19_3 p305 q305
             obtain rfl : ad300 = ad305 := (by injection e305)
             replace p305 := eq_true p305
             replace q305 := eq_true q305
             have p306 : 0 ≤ ((rd x18_4 x19_3) : Int) := zG (by assumption)
             have q306 : (rd x18_4 x19_3) < (l3.length : Int) := zG (by assumption)
             obtain ⟨ad306, e306, hx306_0⟩ := Kd.at_bool HR3.out (rd x18_4 x19_3) p306 q306
             have hw306_0 := hx306_0
             cases e306
             try replace hx306_0 := (HB.out.cell (zE w _ hx306_0)).trans hx306_0
             replace p306 := eq_true p306
             replace q306 := eq_true q306
             refine start_ (n := 13) (S := fun w' => w'.cell? ⟨gb293, 0, none⟩ = some (.int .i64 a0) ∧ w'.cell? ⟨gb293, 1, none⟩ = some (.int .i64 a1) ∧ w'.cell? ⟨gb293, 2, none⟩ = some (.slice Ao101 y302.length co101) ∧ w'.cell? ⟨gb293, 3, none⟩ = some (u294003) ∧ w'.cell? (ad300.add (x19_3).toNat) = some (.int .i64 (rd x18_4 x19_3)) ∧ w'.cell? (ad306.add ((rd x18_4 x19_3)).toNat) = some (.bool (rdOf false l3 (rd x18_4 x19_3)))) (ds := [10, 12]) #[false, false, false, false, false, false, false, false, false, false, false, false, false] (by kernel_rfl) rfl rfl ⟨(yV BK293.out 0).trans rfl, (yV BK293.out 1).trans rfl, (yV BK293.out 2).trans rfl, (yV BK293.out 3).trans rfl, hx305_0, ((HB.out.cell (zE w _ hw306_0)).trans hw306_0)⟩ (fun hHeld => ?_); refine with_tabW spec_l13Reduce.tab47 spec_l13Reduce.bits47 (fun HT_ HW_ => ?_)
             generalize w103.drew = w104 at HO_11 HO_18 HO_294003 HO304 BK252 BK293 HB hx305_0 hx306_0 hHeld ⊢
             refine pure_ (i := 0) (N := some 172) (v := ?_) (a' := ?_) #[true, false, false, false, false, false, false, false, false, false, false, false, false] rfl rfl (any_of HT_.out (by kernel_rfl)) (fun _ _ _ h => h) (Or.inl ⟨by rfl, ?_⟩) ?_ ?_
             rotate_left
             ·intro w'
              go_simp
              with_reducible rfl
             rotate_left
             ·simp only [Act.put, zA, zB, zC, i64_w, i32_w]
              rfl
             refine pure_ (i := 2) (N := some 174) (v := ?_) (a' := ?_) #[true, false, true, false, false, false, false, false, false, false, false, false, false] rfl rfl (any_of HT_.out (by kernel_rfl)) (fun _ _ _ h => h) (Or.inl ⟨by rfl, ?_⟩) ?_ ?_
             rotate_left
             ·intro w'
              go_simp
              with_reducible rfl
             rotate_left
             ·simp only [Act.put, zA, zB, zC, i64_w, i32_w]
              rfl
             refine pure_ (i := 3) (N := some 175) (v := ?_) (a' := ?_) #[true, false, true, true, false, false, false, false, false, false, false, false, false] rfl rfl (any_of HT_.out (by kernel_rfl)) (fun _ _ _ h => h) (Or.inl ⟨by rfl, ?_⟩) ?_ ?_
             rotate_left
             ·intro w'
              go_simp
              with_reducible rfl
             rotate_left
             ·simp only [Act.put, zA, zB, zC, i64_w, i32_w]
              rfl
             refine pure_ (i := 4) (N := some 176) (v := ?_) (a' := ?_) #[true, false, true, true, true, false, false, false, false, false, false, false, false] rfl rfl (any_of HT_.out (by kernel_rfl)) (fun _ _ _ h => h) (Or.inl ⟨by rfl, ?_⟩) ?_ ?_
             rotate_left
             ·intro w'
              go_simp
              with_reducible rfl
             rotate_left
             ·simp only [Act.put, zA, zB, zC, i64_w, i32_w]
              rfl
             refine pure_ (i := 5) (N := some 177) (v := ?_) (a' := ?_) #[true, false, true, true, true, true, false, false, false, false, false, false, false] rfl rfl (any_of HT_.out (by kernel_rfl)) (fun _ _ _ h => h) (Or.inl ⟨by rfl, ?_⟩) ?_ ?_
             rotate_left
             ·intro w'
              go_simp
              with_reducible rfl
             rotate_left
             ·simp only [Act.put, zA, zB, zC, i64_w, i32_w]
              rfl
             refine take_ (i := 1) (N := some 173) (v := ?_) (a' := ?_) #[true, true, true, true, true, true, false, false, false, false, false, false, false] rfl rfl (take_ofW HT_.out HW_.out (by kernel_rfl)) (fun _ _ _ h => h) (Or.inl ⟨by rfl, ?_⟩) hHeld ?_ ?_
             rotate_left
             ·rintro w' ⟨s0, s1, s2, s3, s4, s5⟩
              go_simp
              with_reducible rfl
             rotate_left
             ·simp only [Act.put, zA, zB, zC, i64_w, i32_w]
              rfl
             refine take_ (i := 6) (N := some 178) (v := ?_) (a' := ?_) #[true, true, true, true, true, true, true, false, false, false, false, false, false] rfl rfl (take_ofW HT_.out HW_.out (by kernel_rfl)) (fun _ _ _ h => h) (Or.inl ⟨by rfl, ?_⟩) hHeld ?_ ?_
             rotate_left
             ·rintro w' ⟨s0, s1, s2, s3, s4, s5⟩
              go_simp
              with_reducible rfl
             rotate_left
             ·simp only [Act.put, zA, zB, zC, i64_w, i32_w]
              rfl
             refine pure_ (i := 7) (N := some 179) (v := ?_) (a' := ?_) #[true, true, true, true, true, true, true, true, false, false, false, false, false] rfl rfl (any_of HT_.out (by kernel_rfl)) (fun _ _ _ h => h) (Or.inl ⟨by rfl, ?_⟩) ?_ ?_
             rotate_left
             ·intro w'
              go_simp
              with_reducible rfl
             rotate_left
             ·simp only [Act.put, zA, zB, zC, i64_w, i32_w]
              rfl
             refine take_ (i := 8) (N := some 180) (v := ?_) (a' := ?_) #[true, true, true, true, true, true, true, true, true, false, false, false, false] rfl rfl (take_ofW HT_.out HW_.out (by kernel_rfl)) (fun _ _ _ h => h) (Or.inl ⟨by rfl, ?_⟩) hHeld ?_ ?_
             rotate_left
             ·rintro w' ⟨s0, s1, s2, s3, s4, s5⟩
              go_simp
              with_reducible rfl
             rotate_left
             ·simp only [Act.put, zA, zB, zC, i64_w, i32_w]
              rfl
             refine one_ (i := 9) (N := some 181) #[true, true, true, true, true, true, true, true, true, true, false, false, false] rfl rfl (one_of HT_.out (by kernel_rfl)) (by decide) (fun K hK => ?_)
             refine value_ (w1 := ?_) (v := ?_) (by rfl) rfl ?_ ?_
             rotate_left 2
             ·go_simp
              constructor
              ·rfl
              ·rfl
             refine hK.out _ _ ⟨(yV (yR BK293.out _) 0).trans rfl, (yV (yR BK293.out _) 1).trans rfl, (yV (yR BK293.out _) 2).trans rfl, (yV (yR BK293.out _) 3).trans rfl, (World.cell?_alloc_lt _ _ _ (zE _ _ (hHeld.2.2.2.2.1))).trans (hHeld.2.2.2.2.1), (World.cell?_alloc_lt _ _ _ (zE _ _ (((HB.out.cell (zE w _ hw306_0)).trans hw306_0)))).trans (((HB.out.cell (zE w _ hw306_0)).trans hw306_0))⟩ (fun hHeld => ?_)
             clear hK K
             refine norm_ (a' := ?_) ?_ ?_
             rotate_left
             ·show Act.put _ (some 181) _ = _
              simp only [Act.put, zA, zB, zC, i64_w, i32_w]
              rfl
             refine last_ (i := 10) (N := some 182) #[true, true, true, true, true, true, true, true, true, true, true, false, false] rfl rfl (one_of HT_.out (by kernel_rfl)) (by decide) (fun K hK => ?_)
             refine Kd.R_append_step Kd.bool (w0 := w) w.heap.size (by rfl) (.tmp 173) (.tmp 181) 23 4 (.bool false) 1 rfl Try.underlying23 info4 rfl (by decide) (by omega) u294003 x294003_3 (rdOf false l3 (rd x18_4 x19_3)) [.bool (rdOf false l3 (rd x18_4 x19_3))] (fun _ => True) (fun _ => False) rfl rfl ?aP (fun _ hk => hk.elim) ?aF ?aO ?aB ?aS ?aL ?_
             (case aP => exact rfl)
             (case aB => exact (by with_reducible repeat first | exact HB.out | apply yO | apply yN | apply yP | refine yQ ?_ GE252.out | refine yQ ?_ GE293.out))
             (case aF => exact (fun _ _ => trivial))
             (case aO => exact (mR HO_294003.out))
             (case aS => exact (yX (by with_reducible repeat first | exact HB.out | apply yO | apply yN | apply yP | refine yQ ?_ GE252.out | refine yQ ?_ GE293.out)))
             (case aL => have := LMc95.out; omega)
             intro v308 w105 ho hb hg hat
             rw [← Ny307.out] at ho
             have n0_ := yA (Kd.R_over' (mR HO_11.out) (Kd.R_typed (mR HO_294003.out)) (by decide) hg)
             have n1_ := yA (Kd.R_over' (mR HO_18.out) (Kd.R_typed (mR HO_294003.out)) (by decide) hg)
             have n2_ := yA (blk_grown (g := gb252) (o := .cells #[.int .i64 0, .int .i64 0, .slice none 0 0, .slice none 0 0] 25 (0, 0)) (mK BK252.out) hg (zW HO_294003.out BK252.out (by decide)))
             have n3_ := yA (blk_grown (g := gb293) (o := .cells #[.int .i64 a0, .int .i64 a1, .slice Ao101 y302.length co101, u294003] 25 (0, 0)) (mK BK293.out) hg (zW HO_294003.out BK293.out (by decide)))
             have n4_ := yA (Kd.S_over' (mS HO304.out) (Kd.R_typed (mR HO_294003.out)) (by decide) hg)
             have n5_ := yA (hb)
             have n6_ := yA (ho)
             clear HO_11 HO_18 BK252 BK293 HO304 HB HO_294003
             have HO_11 := n0_
             have HO_18 := n1_
             have BK252 := n2_
             have BK293 := n3_
             have HO304 := n4_
             have HB := n5_
             have HO309 := n6_
             clear n0_ n1_ n2_ n3_ n4_ n5_ n6_ ho hb hg hat
             obtain ⟨Ao106, co106, eo106⟩ := Kd.R_slice HO309.out
             (first | subst eo106 | (injection eo106 with f1_ f2_ f3_; have f4_ := f1_.symm; have f5_ := f3_.symm; clear f1_ f2_ f3_; subst f4_; subst f5_))
             refine hK.out _ _ ?_
             clear hK K
             refine norm_ (a' := ?_) ?_ ?_
             rotate_left
             ·show Act.put _ (some 182) _ = _
              simp only [Act.put, zA, zB, zC, i64_w, i32_w]
              rfl
             refine pure_ (i := 11) (N := some 183) (v := ?_) (a' := ?_) #[true, true, true, true, true, true, true, true, true, true, true, true, false] rfl rfl (any_of HT_.out (by kernel_rfl)) (fun _ _ _ h => h) (Or.inl ⟨by rfl, ?_⟩) ?_ ?_
             rotate_left
             ·intro w'
              go_simp
              with_reducible rfl
             rotate_left
             ·simp only [Act.put, zA, zB, zC, i64_w, i32_w]
              rfl
             refine last_ (i := 12) (N := none) #[true, true, true, true, true, true, true, true, true, true, true, true, true] rfl rfl (one_of HT_.out (by kernel_rfl)) (by decide) (fun K hK => ?_)
             have hs107 : w105.cell? ⟨gb293, 3, none⟩ = some (u294003) := (yV BK293.out 3).trans rfl
             have hfs107 := yW BK293.out 3
             have hns107_0 := NB252_293.out
             have hms107_0 := NB293_252.out
             refine skip_ (w1 := ?_) (by rfl) rfl ?_ ?_
             rotate_left
             ·go_simp
              rfl
             refine hK.out _ _ ?_
             clear hK K
             refine done_ (done_of HT_.out (by kernel_rfl)) ?_
             try go_wp2
             go_roundg k4
             case measure => have := HK1.out; have := HK2.out; have := HK3.out; have := HK4.out; omega
             case rel => exact ⟨(x18_4), (wrap64 (x19_3 + 1)), (y302), (y307), (.slice Ao101 y302.length co101), (.slice Ao106 y307.length co106), (by first | rfl | (simp; done) | (simp [*]; done)), H', ⟨by have := HK1.out; have := HK2.out; have := HK3.out; have := HK4.out; omega⟩, ⟨by (with_reducible repeat (first | apply yB | apply yC | apply yD)); exact zP (zQ (p := ⟨gb293, 3, none⟩) (zR HO_11.out BK293.out (by decide)) (fun _ hk => hk.2) (.slice Ao106 y307.length co106)) (fun _ hk => hk.1)⟩, ⟨by (with_reducible repeat (first | apply yB | apply yC | apply yD)); exact zP (zQ (p := ⟨gb293, 3, none⟩) (zR HO_18.out BK293.out (by decide)) (fun _ hk => hk.2) (.slice Ao106 y307.length co106)) (fun _ hk => hk.1)⟩, ⟨by (with_reducible repeat (first | apply yH | apply yI | apply yJ)); exact Kd.S_mono (Kd.S_far (p := ⟨gb293, 3, none⟩) (Kd.S_types HO304.out BK293.out (by decide)) (fun _ hk => hk.2) (.slice Ao106 y307.length co106)) (fun _ hk => ⟨hk.1.1, hk.1.2⟩)⟩, ⟨by (with_reducible repeat (first | apply yB | apply yC | apply yD)); exact zP (zQ (p := ⟨gb293, 3, none⟩) (zR HO309.out BK293.out (by decide)) (fun _ hk => hk.2) (.slice Ao106 y307.length co106)) (fun _ hk => trivial)⟩, ⟨by (with_reducible repeat (first | refine yS ?_ _ | refine yT ?_ | refine yR ?_ _)); refine blk_far ?_ NB252_293.out _; (with_reducible repeat (first | refine yS ?_ _ | refine yT ?_ | refine yR ?_ _)); exact BK252.out⟩, ⟨by (with_reducible repeat (first | refine yS ?_ _ | refine yT ?_ | refine yR ?_ _)); refine blk_put (cs := #[.int .i64 a0, .int .i64 a1, .slice Ao101 y302.length co101, u294003]) ?_ 3 _ rfl; (with_reducible repeat (first | refine yS ?_ _ | refine yT ?_ | refine yR ?_ _)); exact BK293.out⟩, ⟨by repeat (first | (with_reducible first | exact HB.out | apply yO | apply yN | apply yP | refine yQ ?_ GE252.out | refine yQ ?_ GE293.out) | exact HB.out)⟩⟩
         ·rw [if_neg c61] at H
          have c61b0 : decide (x19_3 < (x18_3.length : Int)) = false := decide_eq_false c61
          clear c61
          simp only [Option.some.injEq, Prod.mk.injEq] at H
          obtain ⟨rfl, rfl, rfl, rfl⟩ := H
          obtain ⟨Ao108, co108, eo108⟩ := Kd.R_slice HO_18.out
          subst eo108
          have hnb109 := NB293_252.out
          have hnc109 := NB252_293.out
          obtain ⟨hcz110_0, hcz110_1, hcz110_2, hcz110_3⟩ := cz4 BK293.out
          obtain ⟨hfz110_0, hfz110_1, hfz110_2, hfz110_3⟩ := fz4 BK293.out
          obtain ⟨hcz111_0, hcz111_1, hcz111_2, hcz111_3⟩ := cz4 BK252.out
          obtain ⟨hfz111_0, hfz111_1, hfz111_2, hfz111_3⟩ := fz4 BK252.out
          obtain ⟨Ao112, co112, eo112⟩ := Kd.S_slice HO_294002.out
          subst eo112
          obtain ⟨Ao113, co113, eo113⟩ := Kd.R_slice HO_294003.out
          subst eo113
          go_wp2
          refine bodyPost_ret (results_cell_row rfl _ _ gb252 25 #[.int .i64 a0, .int .i64 a1, .slice Ao112 x294002_3.length co112, .slice Ao113 x294003_3.length co113] (0, 0) _ rfl (by (with_reducible repeat (first | refine yS ?_ _ | refine yT ?_ | refine yR ?_ _)); refine blk_put (cs := #[.int .i64 a0, .int .i64 a1, .slice Ao112 x294002_3.length co112, .slice none 0 0]) ?_ 3 _ rfl; (with_reducible repeat (first | refine yS ?_ _ | refine yT ?_ | refine yR ?_ _)); refine blk_put (cs := #[.int .i64 a0, .int .i64 a1, .slice none 0 0, .slice none 0 0]) ?_ 2 _ rfl; (with_reducible repeat (first | refine yS ?_ _ | refine yT ?_ | refine yR ?_ _)); refine blk_put (cs := #[.int .i64 a0, .int .i64 0, .slice none 0 0, .slice none 0 0]) ?_ 1 _ rfl; (with_reducible repeat (first | refine yS ?_ _ | refine yT ?_ | refine yR ?_ _)); refine blk_put (cs := #[.int .i64 0, .int .i64 0, .slice none 0 0, .slice none 0 0]) ?_ 0 _ rfl; (with_reducible repeat (first | refine yS ?_ _ | refine yT ?_ | refine yR ?_ _)); exact BK252.out) Try.underlying25 rfl (by kernel_rfl)) rfl ?_
          exact ⟨_, _, by first | rfl | (simp [errW_none, errW_some] <;> rfl) | (simp [*, errW_none, errW_some] <;> rfl), by (with_reducible repeat (first | apply yH | apply yI | apply yJ)); exact Kd.S_mono (Kd.S_far (p := ⟨gb252, 3, none⟩) (Kd.S_far (p := ⟨gb252, 2, none⟩) (Kd.S_far (p := ⟨gb252, 1, none⟩) (Kd.S_far (p := ⟨gb252, 0, none⟩) (Kd.S_types HO_294002.out BK252.out (by decide)) (fun _ hk => hk.2) (.int .i64 a0)) (fun _ hk => hk.2) (.int .i64 a1)) (fun _ hk => hk.2) (.slice Ao112 x294002_3.length co112)) (fun _ hk => hk.2) (.slice Ao113 x294003_3.length co113)) (fun _ hk => trivial), by (with_reducible repeat (first | apply yB | apply yC | apply yD)); exact zP (zQ (p := ⟨gb252, 3, none⟩) (zQ (p := ⟨gb252, 2, none⟩) (zQ (p := ⟨gb252, 1, none⟩) (zQ (p := ⟨gb252, 0, none⟩) (zR HO_294003.out BK252.out (by decide)) (fun _ hk => hk.2) (.int .i64 a0)) (fun _ hk => hk.2) (.int .i64 a1)) (fun _ hk => hk.2) (.slice Ao112 x294002_3.length co112)) (fun _ hk => hk.2) (.slice Ao113 x294003_3.length co113)) (fun _ hk => trivial), by repeat (first | (with_reducible first | exact HB.out | apply yO | apply yN | apply yP | refine yQ ?_ GE252.out | refine yQ ?_ GE293.out) | exact HB.out)⟩

end Go.Proofs.Ytgopcliohchkmaa.Q
