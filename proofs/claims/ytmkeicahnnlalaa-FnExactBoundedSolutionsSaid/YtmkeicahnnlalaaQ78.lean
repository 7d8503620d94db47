-- written by a program of this session
-- squeezed
-- compact
-- shrunk
import Derived.Test.YtmkeicahnnlalaaQ0
import Derived.Test.YtmkeicahnnlalaaQ77
namespace Go.Proofs.Ytmkeicahnnlalaa.Q
open Go.RowKit Go.Proofs.YtmkeicahnnlalaaW.PrintWords Go.Proofs.YtmkeicahnnlalaaW.PrintLast Go.Proofs.YtmkeicahnnlalaaW.PrintMore
set_option linter.unusedVariables false
set_option linter.unusedSimpArgs false

/-! ### spec_l19Node: function 96 -/
mutual
def spec_l19Node.l0 : Nat → List (S71) → List Int → Int → Int → Int → List (List Int) → List Int → Int → Int → Int → Int → Option (Bool)
 | 0, _, _, _, _, _, _, _, _, _, _, _ => none
 | k + 1, x1, x3, x4, x12, x926000, x926001, x926002, x928000, x928001, x928002, x928003 => if x12 ≤ x4 then ((some (([] : List Int) : List Int)).bind fun y943 => (if y943.length + x3.length < 17592186044416 then ((some (y943 ++ x3 : List Int)).bind fun y946 => (if 0 ≤ x928001 then (if x928001 < (y946.length : Int) then ((spec_l19Node.f k x926000 x926001 x926002 x1 x928002 (y946.set (x928001 : Int).toNat x12) x4).bind fun t950 => (if (t950 == (x928000 == 9)) = true then (some t950) else (spec_l19Node.l0 k x1 x3 x4 (wrap64 (x12 + 1)) x926000 x926001 x926002 x928000 x928001 x928002 x928003))) else (none)) else (none))) else (none))) else (some (x928000 == 10))
def spec_l19Node.f : Nat → Int → List (List Int) → List Int → List (S71) → Int → List Int → Int → Option (Bool)
 | 0, _, _, _, _, _, _, _ => none
 | k + 1, a0_0, l0_1, l0_2, l1, a2, l3, a4 => if 0 ≤ a2 then (if a2 < (l1.length : Int) then (if ((rd_T71 l1 a2).f0) = 1 then (if 0 ≤ ((rd_T71 l1 a2).f1) then (if ((rd_T71 l1 a2).f1) < (l3.length : Int) then (if 0 ≤ ((rd_T71 l1 a2).f2) then (if ((rd_T71 l1 a2).f2) < (l3.length : Int) then (some ((rd l3 ((rd_T71 l1 a2).f1)) == (rd l3 ((rd_T71 l1 a2).f2)))) else (none)) else (none)) else (none)) else (none)) else (if ((rd_T71 l1 a2).f0) = 2 then (if 0 ≤ ((rd_T71 l1 a2).f1) then (if ((rd_T71 l1 a2).f1) < (l3.length : Int) then (if 0 ≤ ((rd_T71 l1 a2).f2) then (if ((rd_T71 l1 a2).f2) < (l3.length : Int) then (some (decide ((rd l3 ((rd_T71 l1 a2).f1)) < (rd l3 ((rd_T71 l1 a2).f2))))) else (none)) else (none)) else (none)) else (none)) else (if ((rd_T71 l1 a2).f0) = 3 then (if 0 ≤ ((rd_T71 l1 a2).f1) then (if ((rd_T71 l1 a2).f1) < (l3.length : Int) then (if 0 ≤ ((rd_T71 l1 a2).f2) then (if ((rd_T71 l1 a2).f2) < (l3.length : Int) then (if 0 ≤ ((rd_T71 l1 a2).f3) then (if ((rd_T71 l1 a2).f3) < (l3.length : Int) then (some ((wrap64 ((rd l3 ((rd_T71 l1 a2).f1)) + (rd l3 ((rd_T71 l1 a2).f2)))) == (rd l3 ((rd_T71 l1 a2).f3)))) else (none)) else (none)) else (none)) else (none)) else (none)) else (none)) else (if ((rd_T71 l1 a2).f0) = 4 then (if 0 ≤ ((rd_T71 l1 a2).f1) then (if ((rd_T71 l1 a2).f1) < (l3.length : Int) then (some ((rd l3 ((rd_T71 l1 a2).f1)) == ((rd_T71 l1 a2).f2))) else (none)) else (none)) else (if ((rd_T71 l1 a2).f0) = 5 then (if 0 ≤ ((rd_T71 l1 a2).f1) then (if ((rd_T71 l1 a2).f1) < (l3.length : Int) then ((spec_TermAt.f k a0_0 l0_1 l0_2 (rd l3 ((rd_T71 l1 a2).f1))).bind fun t937 => (some (t937 == ((rd_T71 l1 a2).f2)))) else (none)) else (none)) else (if ((rd_T71 l1 a2).f0) = 6 then ((spec_l19Node.f k a0_0 l0_1 l0_2 l1 ((rd_T71 l1 a2).f1) l3 a4).bind fun t938 => (some (!t938))) else (if ((rd_T71 l1 a2).f0) = 7 then ((spec_l19Node.f k a0_0 l0_1 l0_2 l1 ((rd_T71 l1 a2).f1) l3 a4).bind fun t939 => (if t939 = true then ((spec_l19Node.f k a0_0 l0_1 l0_2 l1 ((rd_T71 l1 a2).f2) l3 a4).bind fun t940 => (some t940)) else (some false))) else (if ((rd_T71 l1 a2).f0) = 8 then ((spec_l19Node.f k a0_0 l0_1 l0_2 l1 ((rd_T71 l1 a2).f1) l3 a4).bind fun t941 => (if t941 = true then (some true) else ((spec_l19Node.f k a0_0 l0_1 l0_2 l1 ((rd_T71 l1 a2).f2) l3 a4).bind fun t942 => (some t942)))) else (spec_l19Node.l0 k l1 l3 a4 0 a0_0 l0_1 l0_2 ((rd_T71 l1 a2).f0) ((rd_T71 l1 a2).f1) ((rd_T71 l1 a2).f2) ((rd_T71 l1 a2).f3)))))))))) else (none)) else (none)
end
theorem spec_l19Node.mono_l : ∀ k, (∀ y0 y1 y2 y3 y4 y5 y6, LeO (spec_l19Node.f k y0 y1 y2 y3 y4 y5 y6) (spec_l19Node.f (k + 1) y0 y1 y2 y3 y4 y5 y6)) ∧ (∀ y0 y1 y2 y3 y4 y5 y6 y7 y8 y9 y10, LeO (spec_l19Node.l0 k y0 y1 y2 y3 y4 y5 y6 y7 y8 y9 y10) (spec_l19Node.l0 (k + 1) y0 y1 y2 y3 y4 y5 y6 y7 y8 y9 y10))
 | 0 => ⟨fun _ _ _ _ _ _ _ r h => by simp [spec_l19Node.f] at h, fun _ _ _ _ _ _ _ _ _ _ _ r h => by simp [spec_l19Node.l0] at h⟩
 | k + 1 => by
  obtain ⟨ih0, ih1⟩ := spec_l19Node.mono_l k
  refine ⟨?_, ?_⟩ <;> intros <;> first | unfold spec_l19Node.f | unfold spec_l19Node.l0
  all_goals repeat' (with_reducible first | exact ih0 _ _ _ _ _ _ _ | exact ih1 _ _ _ _ _ _ _ _ _ _ _ | exact spec_TermAt.mono _ _ _ _ _ | exact LeO.refl _ | exact LeO.none _ | refine LeO.ite ?_ ?_ | refine LeO.bind ?_ fun _ => ?_)
theorem spec_l19Node.mono : ∀ a0 a1 a2 a3 a4 a5 a6 k, LeO (spec_l19Node.f k a0 a1 a2 a3 a4 a5 a6) (spec_l19Node.f (k + 1) a0 a1 a2 a3 a4 a5 a6) := by
 intro a0 a1 a2 a3 a4 a5 a6 k
 obtain ⟨ih0, ih1⟩ := spec_l19Node.mono_l k
 exact ih0 a0 a1 a2 a3 a4 a5 a6
def spec_l19Node.T4 : Bool × List (List Nat × List Nat) := (true, [([], []), ([], []), ([1], [1]), ([0, 2], [0, 2]), ([3], [3]), ([], []), ([], []), ([6], [6]), ([5, 7], [5, 7]), ([8], [8]), ([4, 9], [4, 9]), ([10, 0, 1, 2, 3, 4, 5, 6, 7, 8, 9, 10], [10])])
def spec_l19Node.B4 : List Nat := [0, 0, 2, 7, 15, 0, 0, 64, 224, 480, 1023, 2047]
theorem spec_l19Node.tab4 : rtab .any (opsOf Try.f96 4) = spec_l19Node.T4 := by kernel_rfl
theorem spec_l19Node.bits4 : waitsOk spec_l19Node.T4.2 spec_l19Node.B4 = true := by kernel_rfl
def spec_l19Node.T6 : Bool × List (List Nat × List Nat) := (true, [([], []), ([], []), ([1], [1]), ([0, 2], [0, 2]), ([3], [3]), ([], []), ([], []), ([6], [6]), ([5, 7], [5, 7]), ([8], [8]), ([4, 9], [4, 9]), ([10, 0, 1, 2, 3, 4, 5, 6, 7, 8, 9, 10], [10])])
def spec_l19Node.B6 : List Nat := [0, 0, 2, 7, 15, 0, 0, 64, 224, 480, 1023, 2047]
theorem spec_l19Node.tab6 : rtab .any (opsOf Try.f96 6) = spec_l19Node.T6 := by kernel_rfl
theorem spec_l19Node.bits6 : waitsOk spec_l19Node.T6.2 spec_l19Node.B6 = true := by kernel_rfl
def spec_l19Node.T8 : Bool × List (List Nat × List Nat) := (true, [([], []), ([], []), ([1], [1]), ([0, 2], [0, 2]), ([3], [3]), ([], []), ([], []), ([6], [6]), ([5, 7], [5, 7]), ([8], [8]), ([4, 9], [4, 9]), ([], []), ([], []), ([12], [12]), ([11, 13], [11, 13]), ([14], [14]), ([10, 15], [10, 15]), ([16, 0, 1, 2, 3, 4, 5, 6, 7, 8, 9, 10, 11, 12, 13, 14, 15, 16], [16])])
def spec_l19Node.B8 : List Nat := [0, 0, 2, 7, 15, 0, 0, 64, 224, 480, 1023, 0, 0, 4096, 14336, 30720, 65535, 131071]
theorem spec_l19Node.tab8 : rtab .any (opsOf Try.f96 8) = spec_l19Node.T8 := by kernel_rfl
theorem spec_l19Node.bits8 : waitsOk spec_l19Node.T8.2 spec_l19Node.B8 = true := by kernel_rfl
def spec_l19Node.T10 : Bool × List (List Nat × List Nat) := (true, [([], []), ([], []), ([1], [1]), ([0, 2], [0, 2]), ([3], [3]), ([], []), ([5], [5]), ([4, 6], [4, 6]), ([7, 0, 1, 2, 3, 4, 5, 6, 7], [7])])
def spec_l19Node.B10 : List Nat := [0, 0, 2, 7, 15, 0, 32, 127, 255]
theorem spec_l19Node.tab10 : rtab .any (opsOf Try.f96 10) = spec_l19Node.T10 := by kernel_rfl
theorem spec_l19Node.bits10 : waitsOk spec_l19Node.T10.2 spec_l19Node.B10 = true := by kernel_rfl
def spec_l19Node.T12 : Bool × List (List Nat × List Nat) := (true, [([], []), ([], []), ([], []), ([2], [2]), ([1, 3], [1, 3]), ([4], [4]), ([0, 5], [0, 5]), ([], []), ([7], [7]), ([6, 8], [6, 8]), ([9, 6, 0, 1, 2, 3, 4, 5, 6, 7, 8, 9], [9])])
def spec_l19Node.B12 : List Nat := [0, 0, 0, 4, 14, 30, 63, 0, 128, 511, 1023]
theorem spec_l19Node.tab12 : rtab .any (opsOf Try.f96 12) = spec_l19Node.T12 := by kernel_rfl
theorem spec_l19Node.bits12 : waitsOk spec_l19Node.T12.2 spec_l19Node.B12 = true := by kernel_rfl
set_option maxHeartbeats 8000000 in
set_option maxRecDepth 100000 in
theorem spec_l19Node.calls (k : Nat) : ∀ (a0_0 : Int) (A0_1 : Option Addr) (c0_1 : Nat) (l0_1 : List (List Int)) (A0_2 : Option Addr) (c0_2 : Nat) (l0_2 : List Int) (A1 : Option Addr) (c1 : Nat) (l1 : List (S71)) (a2 : Int) (A3 : Option Addr) (c3 : Nat) (l3 : List Int) (a4 : Int) (r : Bool) (w : World) (hr0_1 : Kd.C (Kd.slice 3 (Kd.int .i64)) w A0_1 l0_1.length l0_1) (hc0_1 : l0_1.length ≤ c0_1) (hr0_2 : Kd.C (Kd.int .i64) w A0_2 l0_2.length l0_2) (hc0_2 : l0_2.length ≤ c0_2) (hr1 : Kd.C k71 w A1 l1.length l1) (hc1 : l1.length ≤ c1) (hr3 : Kd.C (Kd.int .i64) w A3 l3.length l3) (hc3 : l3.length ≤ c3) (h : spec_l19Node.f k a0_0 l0_1 l0_2 l1 a2 l3 a4 = some r),
  Calls Try.prog 96 #[.agg #[.int .i64 a0_0, .slice A0_1 l0_1.length c0_1, .slice A0_2 l0_2.length c0_2], .slice A1 l1.length c1, .int .i64 a2, .slice A3 l3.length c3, .int .i64 a4] w fun e w' => e = .returned (.bool r) ∧ Below w.heap.size w w' := by
 induction k using Nat.strongRecOn with
 | _ k ih =>
 intro a0_0 A0_1 c0_1 l0_1 A0_2 c0_2 l0_2 A1 c1 l1 a2 A3 c3 l3 a4 r w hr0_1 hc0_1 hr0_2 hc0_2 hr1 hc1 hr3 hc3 h
 cases k with
 | zero => exact absurd h (by simp [spec_l19Node.f])
 | succ k =>
 simp only [spec_l19Node.f] at h
 have hu32 := Try.underlying32
 have hu71 := Try.underlying71
 have HR0_1 := yA hr0_1
 have HC0_1 := yA hc0_1
 clear hr0_1 hc0_1
 have HR0_2 := yA hr0_2
 have HC0_2 := yA hc0_2
 clear hr0_2 hc0_2
 have HR1 := yA hr1
 have HC1 := yA hc1
 clear hr1 hc1
 have HR3 := yA hr3
 have HC3 := yA hc3
 clear hr3 hc3
 have HB := yA (zV w.heap.size w)
 have H : (if 0 ≤ a2 then (if a2 < (l1.length : Int) then (if ((rd_T71 l1 a2).f0) = 1 then (if 0 ≤ ((rd_T71 l1 a2).f1) then (if ((rd_T71 l1 a2).f1) < (l3.length : Int) then (if 0 ≤ ((rd_T71 l1 a2).f2) then (if ((rd_T71 l1 a2).f2) < (l3.length : Int) then (some ((rd l3 ((rd_T71 l1 a2).f1)) == (rd l3 ((rd_T71 l1 a2).f2)))) else (none)) else (none)) else (none)) else (none)) else (if ((rd_T71 l1 a2).f0) = 2 then (if 0 ≤ ((rd_T71 l1 a2).f1) then (if ((rd_T71 l1 a2).f1) < (l3.length : Int) then (if 0 ≤ ((rd_T71 l1 a2).f2) then (if ((rd_T71 l1 a2).f2) < (l3.length : Int) then (some (decide ((rd l3 ((rd_T71 l1 a2).f1)) < (rd l3 ((rd_T71 l1 a2).f2))))) else (none)) else (none)) else (none)) else (none)) else (if ((rd_T71 l1 a2).f0) = 3 then (if 0 ≤ ((rd_T71 l1 a2).f1) then (if ((rd_T71 l1 a2).f1) < (l3.length : Int) then (if 0 ≤ ((rd_T71 l1 a2).f2) then (if ((rd_T71 l1 a2).f2) < (l3.length : Int) then (if 0 ≤ ((rd_T71 l1 a2).f3) then (if ((rd_T71 l1 a2).f3) < (l3.length : Int) then (some ((wrap64 ((rd l3 ((rd_T71 l1 a2).f1)) + (rd l3 ((rd_T71 l1 a2).f2)))) == (rd l3 ((rd_T71 l1 a2).f3)))) else (none)) else (none)) else (none)) else (none)) else (none)) else (none)) else (if ((rd_T71 l1 a2).f0) = 4 then (if 0 ≤ ((rd_T71 l1 a2).f1) then (if ((rd_T71 l1 a2).f1) < (l3.length : Int) then (some ((rd l3 ((rd_T71 l1 a2).f1)) == ((rd_T71 l1 a2).f2))) else (none)) else (none)) else (if ((rd_T71 l1 a2).f0) = 5 then (if 0 ≤ ((rd_T71 l1 a2).f1) then (if ((rd_T71 l1 a2).f1) < (l3.length : Int) then ((spec_TermAt.f k a0_0 l0_1 l0_2 (rd l3 ((rd_T71 l1 a2).f1))).bind fun t937 => (some (t937 == ((rd_T71 l1 a2).f2)))) else (none)) else (none)) else (if ((rd_T71 l1 a2).f0) = 6 then ((spec_l19Node.f k a0_0 l0_1 l0_2 l1 ((rd_T71 l1 a2).f1) l3 a4).bind fun t938 => (some (!t938))) else (if ((rd_T71 l1 a2).f0) = 7 then ((spec_l19Node.f k a0_0 l0_1 l0_2 l1 ((rd_T71 l1 a2).f1) l3 a4).bind fun t939 => (if t939 = true then ((spec_l19Node.f k a0_0 l0_1 l0_2 l1 ((rd_T71 l1 a2).f2) l3 a4).bind fun t940 => (some t940)) else (some false))) else (if ((rd_T71 l1 a2).f0) = 8 then ((spec_l19Node.f k a0_0 l0_1 l0_2 l1 ((rd_T71 l1 a2).f1) l3 a4).bind fun t941 => (if t941 = true then (some true) else ((spec_l19Node.f k a0_0 l0_1 l0_2 l1 ((rd_T71 l1 a2).f2) l3 a4).bind fun t942 => (some t942)))) else (spec_l19Node.l0 k l1 l3 a4 0 a0_0 l0_1 l0_2 ((rd_T71 l1 a2).f0) ((rd_T71 l1 a2).f1) ((rd_T71 l1 a2).f2) ((rd_T71 l1 a2).f3)))))))))) else (none)) else (none)) = some r := h
 clear h
 obtain ⟨c6, H⟩ := iP H
 have c6b0 : decide (0 ≤ a2) = true := zH c6
 clear c6
 obtain ⟨c7, H⟩ := iP H
 have c7b0 : decide (a2 < (l1.length : Int)) = true := zH c7
 clear c7
 by_cases c8 : ((rd_T71 l1 a2).f0) = 1
 ·rw [if_pos c8] at H
  have c8b0 : (((rd_T71 l1 a2).f0) == 1) = true := beq_iff_eq.mpr c8
  have c8b1 : (((rd_T71 l1 a2).f0) != 1) = false := bne_eq_false_iff_eq.mpr c8
  clear c8
  obtain ⟨c9, H⟩ := iP H
  have c9b0 : decide (0 ≤ ((rd_T71 l1 a2).f1)) = true := zH c9
  clear c9
  obtain ⟨c10, H⟩ := iP H
  have c10b0 : decide (((rd_T71 l1 a2).f1) < (l3.length : Int)) = true := zH c10
  clear c10
  obtain ⟨c11, H⟩ := iP H
  have c11b0 : decide (0 ≤ ((rd_T71 l1 a2).f2)) = true := zH c11
  clear c11
  obtain ⟨c12, H⟩ := iP H
  have c12b0 : decide (((rd_T71 l1 a2).f2) < (l3.length : Int)) = true := zH c12
  clear c12
  obtain rfl := zU H
  go_enter Try.func96, Try.ntmps96
  try go_wp2_with (first | ((with_reducible refine gate_dst (N := 5) rfl ?_); refine box_event ?hg (N := 5) ?hd (cs := #[.int .i64 a0_0, .slice A0_1 l0_1.length c0_1, .slice A0_2 l0_2.length c0_2]) (t := 32) ?hr ?_; (case hd => rfl); (case hg => rfl); (case hr => first | (go_simp; done) | (go_simp; rfl)); intro gb925 hg w13 hbox hb; have BK925 := yA (hbox); have GW925 := yA ((by rw [hg]; exact (yX (mB HB.out)) : w.heap.size ≤ gb925)); have GE925 := yA ((by rw [hg]; exact (yX (mB HB.out)) : w.heap.size ≤ gb925)); replace HB := yA (zD (mB HB.out) hb); clear hb hbox hg; have p926 : 0 ≤ (a2 : Int) := zG (by assumption); have q926 : a2 < (l1.length : Int) := zG (by assumption); obtain ⟨ad926, e926, hx926_0, hx926_1, hx926_2, hx926_3⟩ := at_T71 HR1.out a2 p926 q926; cases e926; replace hx926_0 := (HB.out.cell (zE w _ hx926_0)).trans hx926_0; replace hx926_1 := (HB.out.cell (zE w _ hx926_1)).trans hx926_1; replace hx926_2 := (HB.out.cell (zE w _ hx926_2)).trans hx926_2; replace hx926_3 := (HB.out.cell (zE w _ hx926_3)).trans hx926_3; replace p926 := eq_true p926; replace q926 := eq_true q926) | ((with_reducible refine gate_dst (N := 11) rfl ?_); refine box_event ?hg (N := 11) ?hd (cs := #[.int .i64 0, .int .i64 0, .int .i64 0, .int .i64 0]) (t := 71) ?hr ?_; (case hd => rfl); (case hg => rfl); (case hr => first | (go_simp; done) | (go_simp; rfl)); intro gb927 hg w14 hbox hb; have BK927 := yA (hbox); have GW927 := yA ((by rw [hg]; exact (yX (by with_reducible repeat first | exact HB.out | apply yO | apply yN | apply yP | refine yQ ?_ GE925.out)) : w.heap.size ≤ gb927)); have GE927 := yA ((by rw [hg]; exact (yX (by with_reducible repeat first | exact HB.out | apply yO | apply yN | apply yP | refine yQ ?_ GE925.out)) : w.heap.size ≤ gb927)); replace HB := yA (zD (by with_reducible repeat first | exact HB.out | apply yO | apply yN | apply yP | refine yQ ?_ GE925.out) hb); have NB925_927 := yA ((by rw [hg]; exact Nat.ne_of_lt (zX (mK BK925.out)) : gb925 ≠ gb927)); have NB927_925 := yA ((by rw [hg]; exact Nat.ne_of_gt (zX (mK BK925.out)) : gb927 ≠ gb925)); replace BK925 := yA (yU (mK BK925.out) hb); clear hb hbox hg; have hnb15 := NB927_925.out; have hnc15 := NB925_927.out; have hcz16_0 : w14.cell? ⟨gb927, 0, none⟩ = some (.int .i64 0) := (yV BK927.out 0).trans rfl; have hcz16_1 : w14.cell? ⟨gb927, 1, none⟩ = some (.int .i64 0) := (yV BK927.out 1).trans rfl; have hcz16_2 : w14.cell? ⟨gb927, 2, none⟩ = some (.int .i64 0) := (yV BK927.out 2).trans rfl; have hcz16_3 : w14.cell? ⟨gb927, 3, none⟩ = some (.int .i64 0) := (yV BK927.out 3).trans rfl; have hfz16_0 := yW BK927.out 0; have hfz16_1 := yW BK927.out 1; have hfz16_2 := yW BK927.out 2; have hfz16_3 := yW BK927.out 3))
  have n0_ : Aside0 (((((w14.setCell ⟨gb927, 0, none⟩ (.int .i64 ((rd_T71 l1 a2).f0))).setCell ⟨gb927, 1, none⟩ (.int .i64 ((rd_T71 l1 a2).f1))).setCell ⟨gb927, 2, none⟩ (.int .i64 ((rd_T71 l1 a2).f2))).setCell ⟨gb927, 3, none⟩ (.int .i64 ((rd_T71 l1 a2).f3))).heap[gb925]? = some (.cells #[.int .i64 a0_0, .slice A0_1 l0_1.length c0_1, .slice A0_2 l0_2.length c0_2] 32 (0, 0))) := ⟨by (with_reducible repeat (first | refine yS ?_ _ | refine yT ?_ | refine yR ?_ _)); refine blk_far ?_ NB925_927.out _; (with_reducible repeat (first | refine yS ?_ _ | refine yT ?_ | refine yR ?_ _)); refine blk_far ?_ NB925_927.out _; (with_reducible repeat (first | refine yS ?_ _ | refine yT ?_ | refine yR ?_ _)); refine blk_far ?_ NB925_927.out _; (with_reducible repeat (first | refine yS ?_ _ | refine yT ?_ | refine yR ?_ _)); refine blk_far ?_ NB925_927.out _; (with_reducible repeat (first | refine yS ?_ _ | refine yT ?_ | refine yR ?_ _)); exact BK925.out⟩
  have n1_ : Aside0 (((((w14.setCell ⟨gb927, 0, none⟩ (.int .i64 ((rd_T71 l1 a2).f0))).setCell ⟨gb927, 1, none⟩ (.int .i64 ((rd_T71 l1 a2).f1))).setCell ⟨gb927, 2, none⟩ (.int .i64 ((rd_T71 l1 a2).f2))).setCell ⟨gb927, 3, none⟩ (.int .i64 ((rd_T71 l1 a2).f3))).heap[gb927]? = some (.cells #[.int .i64 ((rd_T71 l1 a2).f0), .int .i64 ((rd_T71 l1 a2).f1), .int .i64 ((rd_T71 l1 a2).f2), .int .i64 ((rd_T71 l1 a2).f3)] 71 (0, 0))) := ⟨by (with_reducible repeat (first | refine yS ?_ _ | refine yT ?_ | refine yR ?_ _)); refine blk_put (cs := #[.int .i64 ((rd_T71 l1 a2).f0), .int .i64 ((rd_T71 l1 a2).f1), .int .i64 ((rd_T71 l1 a2).f2), .int .i64 0]) ?_ 3 _ rfl; (with_reducible repeat (first | refine yS ?_ _ | refine yT ?_ | refine yR ?_ _)); refine blk_put (cs := #[.int .i64 ((rd_T71 l1 a2).f0), .int .i64 ((rd_T71 l1 a2).f1), .int .i64 0, .int .i64 0]) ?_ 2 _ rfl; (with_reducible repeat (first | refine yS ?_ _ | refine yT ?_ | refine yR ?_ _)); refine blk_put (cs := #[.int .i64 ((rd_T71 l1 a2).f0), .int .i64 0, .int .i64 0, .int .i64 0]) ?_ 1 _ rfl; (with_reducible repeat (first | refine yS ?_ _ | refine yT ?_ | refine yR ?_ _)); refine blk_put (cs := #[.int .i64 0, .int .i64 0, .int .i64 0, .int .i64 0]) ?_ 0 _ rfl; (with_reducible repeat (first | refine yS ?_ _ | refine yT ?_ | refine yR ?_ _)); exact BK927.out⟩
  have n2_ : Aside0 (Below w.heap.size w ((((w14.setCell ⟨gb927, 0, none⟩ (.int .i64 ((rd_T71 l1 a2).f0))).setCell ⟨gb927, 1, none⟩ (.int .i64 ((rd_T71 l1 a2).f1))).setCell ⟨gb927, 2, none⟩ (.int .i64 ((rd_T71 l1 a2).f2))).setCell ⟨gb927, 3, none⟩ (.int .i64 ((rd_T71 l1 a2).f3)))) := ⟨by repeat (first | (with_reducible first | exact HB.out | apply yO | apply yN | apply yP | refine yQ ?_ GE925.out | refine yQ ?_ GE927.out) | exact HB.out)⟩
  (try clear BK925)
  (try clear BK927)
  (try clear HB)
  generalize ((((w14.setCell ⟨gb927, 0, none⟩ (.int .i64 ((rd_T71 l1 a2).f0))).setCell ⟨gb927, 1, none⟩ (.int .i64 ((rd_T71 l1 a2).f1))).setCell ⟨gb927, 2, none⟩ (.int .i64 ((rd_T71 l1 a2).f2))).setCell ⟨gb927, 3, none⟩ (.int .i64 ((rd_T71 l1 a2).f3))) = w17 at n0_ n1_ n2_ ⊢
  have BK925 := n0_
  have BK927 := n1_
  have HB := n2_
  clear n0_ n1_ n2_
  replace BK925 := yA (yT BK925.out)
  replace BK927 := yA (yT BK927.out)
  replace HB := yA (yP HB.out)
  have p928 : 0 ≤ (((rd_T71 l1 a2).f1) : Int) := zG (by assumption)
  have q928 : ((rd_T71 l1 a2).f1) < (l3.length : Int) := zG (by assumption)
  obtain ⟨ad928, e928, hx928_0⟩ := Kd.at_int HR3.out ((rd_T71 l1 a2).f1) p928 q928
  have hw928_0 := hx928_0
  cases e928
  try replace hx928_0 := (HB.out.cell (zE w _ hx928_0)).trans hx928_0
  replace p928 := eq_true p928
  replace q928 := eq_true q928
  have p929 : 0 ≤ (((rd_T71 l1 a2).f2) : Int) := zG (by assumption)
  have q929 : ((rd_T71 l1 a2).f2) < (l3.length : Int) := zG (by assumption)
  obtain ⟨ad929, e929, hx929_0⟩ := Kd.at_int HR3.out ((rd_T71 l1 a2).f2) p929 q929
  have hw929_0 := hx929_0
  obtain rfl : ad928 = ad929 := (by injection e929)
  try replace hx929_0 := (HB.out.cell (zE w _ hx929_0)).trans hx929_0
  replace p929 := eq_true p929
  replace q929 := eq_true q929
  refine start_ (n := 12) (S := fun w' => w'.cell? ⟨gb927, 0, none⟩ = some (.int .i64 ((rd_T71 l1 a2).f0)) ∧ w'.cell? ⟨gb927, 1, none⟩ = some (.int .i64 ((rd_T71 l1 a2).f1)) ∧ w'.cell? ⟨gb927, 2, none⟩ = some (.int .i64 ((rd_T71 l1 a2).f2)) ∧ w'.cell? ⟨gb927, 3, none⟩ = some (.int .i64 ((rd_T71 l1 a2).f3)) ∧ w'.cell? (ad928.add (((rd_T71 l1 a2).f1)).toNat) = some (.int .i64 (rd l3 ((rd_T71 l1 a2).f1))) ∧ w'.cell? (ad928.add (((rd_T71 l1 a2).f2)).toNat) = some (.int .i64 (rd l3 ((rd_T71 l1 a2).f2)))) (ds := []) #[false, false, false, false, false, false, false, false, false, false, false, false] (by kernel_rfl) rfl rfl ⟨(yV BK927.out 0).trans rfl, (yV BK927.out 1).trans rfl, (yV BK927.out 2).trans rfl, (yV BK927.out 3).trans rfl, ((HB.out.cell (zE w _ hw928_0)).trans hw928_0), ((HB.out.cell (zE w _ hw929_0)).trans hw929_0)⟩ (fun hHeld => ?_); refine with_tabW spec_l19Node.tab4 spec_l19Node.bits4 (fun HT_ HW_ => ?_)
  generalize w17.drew = w18 at BK925 BK927 HB hx928_0 hx929_0 hHeld ⊢
  refine pure_ (i := 0) (N := some 23) (v := ?_) (a' := ?_) #[true, false, false, false, false, false, false, false, false, false, false, false] rfl rfl (any_of HT_.out (by kernel_rfl)) (fun _ _ _ h => h) (Or.inl ⟨by rfl, ?_⟩) ?_ ?_
  rotate_left
  ·intro w'
   go_simp
   with_reducible rfl
  rotate_left
  ·simp only [Act.put, zA, zB, zC, i64_w, i32_w]
   rfl
  refine pure_ (i := 1) (N := some 24) (v := ?_) (a' := ?_) #[true, true, false, false, false, false, false, false, false, false, false, false] rfl rfl (any_of HT_.out (by kernel_rfl)) (fun _ _ _ h => h) (Or.inl ⟨by rfl, ?_⟩) ?_ ?_
  rotate_left
  ·intro w'
   go_simp
   with_reducible rfl
  rotate_left
  ·simp only [Act.put, zA, zB, zC, i64_w, i32_w]
   rfl
  refine pure_ (i := 5) (N := some 28) (v := ?_) (a' := ?_) #[true, true, false, false, false, true, false, false, false, false, false, false] rfl rfl (any_of HT_.out (by kernel_rfl)) (fun _ _ _ h => h) (Or.inl ⟨by rfl, ?_⟩) ?_ ?_
  rotate_left
  ·intro w'
   go_simp
   with_reducible rfl
  rotate_left
  ·simp only [Act.put, zA, zB, zC, i64_w, i32_w]
   rfl
  refine pure_ (i := 6) (N := some 29) (v := ?_) (a' := ?_) #[true, true, false, false, false, true, true, false, false, false, false, false] rfl rfl (any_of HT_.out (by kernel_rfl)) (fun _ _ _ h => h) (Or.inl ⟨by rfl, ?_⟩) ?_ ?_
  rotate_left
  ·intro w'
   go_simp
   with_reducible rfl
  rotate_left
  ·simp only [Act.put, zA, zB, zC, i64_w, i32_w]
   rfl
  refine take_ (i := 2) (N := some 25) (v := ?_) (a' := ?_) #[true, true, true, false, false, true, true, false, false, false, false, false] rfl rfl (take_ofW HT_.out HW_.out (by kernel_rfl)) (fun _ _ _ h => h) (Or.inl ⟨by rfl, ?_⟩) hHeld ?_ ?_
  rotate_left
  ·rintro w' ⟨s0, s1, s2, s3, s4, s5⟩
   go_simp
   with_reducible rfl
  rotate_left
  ·simp only [Act.put, zA, zB, zC, i64_w, i32_w]
   rfl
  refine pure_ (i := 3) (N := some 26) (v := ?_) (a' := ?_) #[true, true, true, true, false, true, true, false, false, false, false, false] rfl rfl (any_of HT_.out (by kernel_rfl)) (fun _ _ _ h => h) (Or.inl ⟨by rfl, ?_⟩) ?_ ?_
  rotate_left
  ·intro w'
   go_simp
   with_reducible rfl
  rotate_left
  ·simp only [Act.put, zA, zB, zC, i64_w, i32_w]
   rfl
  refine take_ (i := 4) (N := some 27) (v := ?_) (a' := ?_) #[true, true, true, true, true, true, true, false, false, false, false, false] rfl rfl (take_ofW HT_.out HW_.out (by kernel_rfl)) (fun _ _ _ h => h) (Or.inl ⟨by rfl, ?_⟩) hHeld ?_ ?_
  rotate_left
  ·rintro w' ⟨s0, s1, s2, s3, s4, s5⟩
   go_simp
   with_reducible rfl
  rotate_left
  ·simp only [Act.put, zA, zB, zC, i64_w, i32_w]
   rfl
  refine take_ (i := 7) (N := some 30) (v := ?_) (a' := ?_) #[true, true, true, true, true, true, true, true, false, false, false, false] rfl rfl (take_ofW HT_.out HW_.out (by kernel_rfl)) (fun _ _ _ h => h) (Or.inl ⟨by rfl, ?_⟩) hHeld ?_ ?_
  rotate_left
  ·rintro w' ⟨s0, s1, s2, s3, s4, s5⟩
   go_simp
   with_reducible rfl
  rotate_left
  ·simp only [Act.put, zA, zB, zC, i64_w, i32_w]
   rfl
  refine pure_ (i := 8) (N := some 31) (v := ?_) (a' := ?_) #[true, true, true, true, true, true, true, true, true, false, false, false] rfl rfl (any_of HT_.out (by kernel_rfl)) (fun _ _ _ h => h) (Or.inl ⟨by rfl, ?_⟩) ?_ ?_
  rotate_left
  ·intro w'
   go_simp
   with_reducible rfl
  rotate_left
  ·simp only [Act.put, zA, zB, zC, i64_w, i32_w]
   rfl
  refine take_ (i := 9) (N := some 32) (v := ?_) (a' := ?_) #[true, true, true, true, true, true, true, true, true, true, false, false] rfl rfl (take_ofW HT_.out HW_.out (by kernel_rfl)) (fun _ _ _ h => h) (Or.inl ⟨by rfl, ?_⟩) hHeld ?_ ?_
  rotate_left
  ·rintro w' ⟨s0, s1, s2, s3, s4, s5⟩
   go_simp
   with_reducible rfl
  rotate_left
  ·simp only [Act.put, zA, zB, zC, i64_w, i32_w]
   rfl
  refine pure_ (i := 10) (N := some 33) (v := ?_) (a' := ?_) #[true, true, true, true, true, true, true, true, true, true, true, false] rfl rfl (any_of HT_.out (by kernel_rfl)) (fun _ _ _ h => h) (Or.inl ⟨by rfl, ?_⟩) ?_ ?_
  rotate_left
  ·intro w'
   go_simp
   with_reducible rfl
  rotate_left
  ·simp only [Act.put, zA, zB, zC, i64_w, i32_w]
   rfl
  refine pure_ (i := 11) (N := some 10) (v := ?_) (a' := ?_) #[true, true, true, true, true, true, true, true, true, true, true, true] rfl rfl (any_of HT_.out (by kernel_rfl)) (fun _ _ _ h => h) (Or.inl ⟨by rfl, ?_⟩) ?_ ?_
  rotate_left
  ·intro w'
   go_simp
   with_reducible rfl
  rotate_left
  ·simp only [Act.put, zA, zB, zC, i64_w, i32_w]
   rfl
  refine done_ (done_of HT_.out (by kernel_rfl)) ?_
  try go_wp2
  go_ret
  exact ⟨by first | rfl | (simp [errW_none, errW_some] <;> rfl) | (simp [*, errW_none, errW_some] <;> rfl), by repeat (first | (with_reducible first | exact HB.out | apply yO | apply yN | apply yP | refine yQ ?_ GE925.out | refine yQ ?_ GE927.out) | exact HB.out)⟩
 ·rw [if_neg c8] at H
  have c8b0 : (((rd_T71 l1 a2).f0) == 1) = false := beq_eq_false_iff_ne.mpr c8
  have c8b1 : (((rd_T71 l1 a2).f0) != 1) = true := bne_iff_ne.mpr c8
  by_cases c19 : ((rd_T71 l1 a2).f0) = 2
  ·rw [if_pos c19] at H
   have c19b0 : (((rd_T71 l1 a2).f0) == 2) = true := beq_iff_eq.mpr c19
   have c19b1 : (((rd_T71 l1 a2).f0) != 2) = false := bne_eq_false_iff_eq.mpr c19
   clear c19
   obtain ⟨c20, H⟩ := iP H
   have c20b0 : decide (0 ≤ ((rd_T71 l1 a2).f1)) = true := zH c20
   clear c20
   obtain ⟨c21, H⟩ := iP H
   have c21b0 : decide (((rd_T71 l1 a2).f1) < (l3.length : Int)) = true := zH c21
   clear c21
   obtain ⟨c22, H⟩ := iP H
   have c22b0 : decide (0 ≤ ((rd_T71 l1 a2).f2)) = true := zH c22
   clear c22
   obtain ⟨c23, H⟩ := iP H
   have c23b0 : decide (((rd_T71 l1 a2).f2) < (l3.length : Int)) = true := zH c23
   clear c23
   obtain rfl := zU H
   go_enter Try.func96, Try.ntmps96
   try go_wp2_with (first | ((with_reducible refine gate_dst (N := 5) rfl ?_); refine box_event ?hg (N := 5) ?hd (cs := #[.int .i64 a0_0, .slice A0_1 l0_1.length c0_1, .slice A0_2 l0_2.length c0_2]) (t := 32) ?hr ?_; (case hd => rfl); (case hg => rfl); (case hr => first | (go_simp; done) | (go_simp; rfl)); intro gb925 hg w24 hbox hb; have BK925 := yA (hbox); have GW925 := yA ((by rw [hg]; exact (yX (mB HB.out)) : w.heap.size ≤ gb925)); have GE925 := yA ((by rw [hg]; exact (yX (mB HB.out)) : w.heap.size ≤ gb925)); replace HB := yA (zD (mB HB.out) hb); clear hb hbox hg; have p926 : 0 ≤ (a2 : Int) := zG (by assumption); have q926 : a2 < (l1.length : Int) := zG (by assumption); obtain ⟨ad926, e926, hx926_0, hx926_1, hx926_2, hx926_3⟩ := at_T71 HR1.out a2 p926 q926; cases e926; replace hx926_0 := (HB.out.cell (zE w _ hx926_0)).trans hx926_0; replace hx926_1 := (HB.out.cell (zE w _ hx926_1)).trans hx926_1; replace hx926_2 := (HB.out.cell (zE w _ hx926_2)).trans hx926_2; replace hx926_3 := (HB.out.cell (zE w _ hx926_3)).trans hx926_3; replace p926 := eq_true p926; replace q926 := eq_true q926) | ((with_reducible refine gate_dst (N := 11) rfl ?_); refine box_event ?hg (N := 11) ?hd (cs := #[.int .i64 0, .int .i64 0, .int .i64 0, .int .i64 0]) (t := 71) ?hr ?_; (case hd => rfl); (case hg => rfl); (case hr => first | (go_simp; done) | (go_simp; rfl)); intro gb927 hg w25 hbox hb; have BK927 := yA (hbox); have GW927 := yA ((by rw [hg]; exact (yX (by with_reducible repeat first | exact HB.out | apply yO | apply yN | apply yP | refine yQ ?_ GE925.out)) : w.heap.size ≤ gb927)); have GE927 := yA ((by rw [hg]; exact (yX (by with_reducible repeat first | exact HB.out | apply yO | apply yN | apply yP | refine yQ ?_ GE925.out)) : w.heap.size ≤ gb927)); replace HB := yA (zD (by with_reducible repeat first | exact HB.out | apply yO | apply yN | apply yP | refine yQ ?_ GE925.out) hb); have NB925_927 := yA ((by rw [hg]; exact Nat.ne_of_lt (zX (mK BK925.out)) : gb925 ≠ gb927)); have NB927_925 := yA ((by rw [hg]; exact Nat.ne_of_gt (zX (mK BK925.out)) : gb927 ≠ gb925)); replace BK925 := yA (yU (mK BK925.out) hb); clear hb hbox hg; have hnb26 := NB927_925.out; have hnc26 := NB925_927.out; have hcz27_0 : w25.cell? ⟨gb927, 0, none⟩ = some (.int .i64 0) := (yV BK927.out 0).trans rfl; have hcz27_1 : w25.cell? ⟨gb927, 1, none⟩ = some (.int .i64 0) := (yV BK927.out 1).trans rfl; have hcz27_2 : w25.cell? ⟨gb927, 2, none⟩ = some (.int .i64 0) := (yV BK927.out 2).trans rfl; have hcz27_3 : w25.cell? ⟨gb927, 3, none⟩ = some (.int .i64 0) := (yV BK927.out 3).trans rfl; have hfz27_0 := yW BK927.out 0; have hfz27_1 := yW BK927.out 1; have hfz27_2 := yW BK927.out 2; have hfz27_3 := yW BK927.out 3))
   have n0_ : Aside0 (((((w25.setCell ⟨gb927, 0, none⟩ (.int .i64 ((rd_T71 l1 a2).f0))).setCell ⟨gb927, 1, none⟩ (.int .i64 ((rd_T71 l1 a2).f1))).setCell ⟨gb927, 2, none⟩ (.int .i64 ((rd_T71 l1 a2).f2))).setCell ⟨gb927, 3, none⟩ (.int .i64 ((rd_T71 l1 a2).f3))).heap[gb925]? = some (.cells #[.int .i64 a0_0, .slice A0_1 l0_1.length c0_1, .slice A0_2 l0_2.length c0_2] 32 (0, 0))) := ⟨by (with_reducible repeat (first | refine yS ?_ _ | refine yT ?_ | refine yR ?_ _)); refine blk_far ?_ NB925_927.out _; (with_reducible repeat (first | refine yS ?_ _ | refine yT ?_ | refine yR ?_ _)); refine blk_far ?_ NB925_927.out _; (with_reducible repeat (first | refine yS ?_ _ | refine yT ?_ | refine yR ?_ _)); refine blk_far ?_ NB925_927.out _; (with_reducible repeat (first | refine yS ?_ _ | refine yT ?_ | refine yR ?_ _)); refine blk_far ?_ NB925_927.out _; (with_reducible repeat (first | refine yS ?_ _ | refine yT ?_ | refine yR ?_ _)); exact BK925.out⟩
   have n1_ : Aside0 (((((w25.setCell ⟨gb927, 0, none⟩ (.int .i64 ((rd_T71 l1 a2).f0))).setCell ⟨gb927, 1, none⟩ (.int .i64 ((rd_T71 l1 a2).f1))).setCell ⟨gb927, 2, none⟩ (.int .i64 ((rd_T71 l1 a2).f2))).setCell ⟨gb927, 3, none⟩ (.int .i64 ((rd_T71 l1 a2).f3))).heap[gb927]? = some (.cells #[.int .i64 ((rd_T71 l1 a2).f0), .int .i64 ((rd_T71 l1 a2).f1), .int .i64 ((rd_T71 l1 a2).f2), .int .i64 ((rd_T71 l1 a2).f3)] 71 (0, 0))) := ⟨by (with_reducible repeat (first | refine yS ?_ _ | refine yT ?_ | refine yR ?_ _)); refine blk_put (cs := #[.int .i64 ((rd_T71 l1 a2).f0), .int .i64 ((rd_T71 l1 a2).f1), .int .i64 ((rd_T71 l1 a2).f2), .int .i64 0]) ?_ 3 _ rfl; (with_reducible repeat (first | refine yS ?_ _ | refine yT ?_ | refine yR ?_ _)); refine blk_put (cs := #[.int .i64 ((rd_T71 l1 a2).f0), .int .i64 ((rd_T71 l1 a2).f1), .int .i64 0, .int .i64 0]) ?_ 2 _ rfl; (with_reducible repeat (first | refine yS ?_ _ | refine yT ?_ | refine yR ?_ _)); refine blk_put (cs := #[.int .i64 ((rd_T71 l1 a2).f0), .int .i64 0, .int .i64 0, .int .i64 0]) ?_ 1 _ rfl; (with_reducible repeat (first | refine yS ?_ _ | refine yT ?_ | refine yR ?_ _)); refine blk_put (cs := #[.int .i64 0, .int .i64 0, .int .i64 0, .int .i64 0]) ?_ 0 _ rfl; (with_reducible repeat (first | refine yS ?_ _ | refine yT ?_ | refine yR ?_ _)); exact BK927.out⟩
   have n2_ : Aside0 (Below w.heap.size w ((((w25.setCell ⟨gb927, 0, none⟩ (.int .i64 ((rd_T71 l1 a2).f0))).setCell ⟨gb927, 1, none⟩ (.int .i64 ((rd_T71 l1 a2).f1))).setCell ⟨gb927, 2, none⟩ (.int .i64 ((rd_T71 l1 a2).f2))).setCell ⟨gb927, 3, none⟩ (.int .i64 ((rd_T71 l1 a2).f3)))) := ⟨by repeat (first | (with_reducible first | exact HB.out | apply yO | apply yN | apply yP | refine yQ ?_ GE925.out | refine yQ ?_ GE927.out) | exact HB.out)⟩
   (try clear BK925)
   (try clear BK927)
   (try clear HB)
   generalize ((((w25.setCell ⟨gb927, 0, none⟩ (.int .i64 ((rd_T71 l1 a2).f0))).setCell ⟨gb927, 1, none⟩ (.int .i64 ((rd_T71 l1 a2).f1))).setCell ⟨gb927, 2, none⟩ (.int .i64 ((rd_T71 l1 a2).f2))).setCell ⟨gb927, 3, none⟩ (.int .i64 ((rd_T71 l1 a2).f3))) = w28 at n0_ n1_ n2_ ⊢
   have BK925 := n0_
   have BK927 := n1_
   have HB := n2_
   clear n0_ n1_ n2_
   replace BK925 := yA (yT BK925.out)
   replace BK927 := yA (yT BK927.out)
   replace HB := yA (yP HB.out)
   have p930 : 0 ≤ (((rd_T71 l1 a2).f1) : Int) := zG (by assumption)
   have q930 : ((rd_T71 l1 a2).f1) < (l3.length : Int) := zG (by assumption)
   obtain ⟨ad930, e930, hx930_0⟩ := Kd.at_int HR3.out ((rd_T71 l1 a2).f1) p930 q930
   have hw930_0 := hx930_0
   cases e930
   try replace hx930_0 := (HB.out.cell (zE w _ hx930_0)).trans hx930_0
   replace p930 := eq_true p930
   replace q930 := eq_true q930
   have p931 : 0 ≤ (((rd_T71 l1 a2).f2) : Int) := zG (by assumption)
   have q931 : ((rd_T71 l1 a2).f2) < (l3.length : Int) := zG (by assumption)
   obtain ⟨ad931, e931, hx931_0⟩ := Kd.at_int HR3.out ((rd_T71 l1 a2).f2) p931 q931
   have hw931_0 := hx931_0
   obtain rfl : ad930 = ad931 := (by injection e931)
   try replace hx931_0 := (HB.out.cell (zE w _ hx931_0)).trans hx931_0
   replace p931 := eq_true p931
   replace q931 := eq_true q931
   refine start_ (n := 12) (S := fun w' => w'.cell? ⟨gb927, 0, none⟩ = some (.int .i64 ((rd_T71 l1 a2).f0)) ∧ w'.cell? ⟨gb927, 1, none⟩ = some (.int .i64 ((rd_T71 l1 a2).f1)) ∧ w'.cell? ⟨gb927, 2, none⟩ = some (.int .i64 ((rd_T71 l1 a2).f2)) ∧ w'.cell? ⟨gb927, 3, none⟩ = some (.int .i64 ((rd_T71 l1 a2).f3)) ∧ w'.cell? (ad930.add (((rd_T71 l1 a2).f1)).toNat) = some (.int .i64 (rd l3 ((rd_T71 l1 a2).f1))) ∧ w'.cell? (ad930.add (((rd_T71 l1 a2).f2)).toNat) = some (.int .i64 (rd l3 ((rd_T71 l1 a2).f2)))) (ds := []) #[false, false, false, false, false, false, false, false, false, false, false, false] (by kernel_rfl) rfl rfl ⟨(yV BK927.out 0).trans rfl, (yV BK927.out 1).trans rfl, (yV BK927.out 2).trans rfl, (yV BK927.out 3).trans rfl, ((HB.out.cell (zE w _ hw930_0)).trans hw930_0), ((HB.out.cell (zE w _ hw931_0)).trans hw931_0)⟩ (fun hHeld => ?_); refine with_tabW spec_l19Node.tab6 spec_l19Node.bits6 (fun HT_ HW_ => ?_)
   generalize w28.drew = w29 at BK925 BK927 HB hx930_0 hx931_0 hHeld ⊢
   refine pure_ (i := 0) (N := some 36) (v := ?_) (a' := ?_) #[true, false, false, false, false, false, false, false, false, false, false, false] rfl rfl (any_of HT_.out (by kernel_rfl)) (fun _ _ _ h => h) (Or.inl ⟨by rfl, ?_⟩) ?_ ?_
   rotate_left
   ·intro w'
    go_simp
    with_reducible rfl
   rotate_left
   ·simp only [Act.put, zA, zB, zC, i64_w, i32_w]
    rfl
   refine pure_ (i := 1) (N := some 37) (v := ?_) (a' := ?_) #[true, true, false, false, false, false, false, false, false, false, false, false] rfl rfl (any_of HT_.out (by kernel_rfl)) (fun _ _ _ h => h) (Or.inl ⟨by rfl, ?_⟩) ?_ ?_
   rotate_left
   ·intro w'
    go_simp
    with_reducible rfl
   rotate_left
   ·simp only [Act.put, zA, zB, zC, i64_w, i32_w]
    rfl
   refine pure_ (i := 5) (N := some 41) (v := ?_) (a' := ?_) #[true, true, false, false, false, true, false, false, false, false, false, false] rfl rfl (any_of HT_.out (by kernel_rfl)) (fun _ _ _ h => h) (Or.inl ⟨by rfl, ?_⟩) ?_ ?_
   rotate_left
   ·intro w'
    go_simp
    with_reducible rfl
   rotate_left
   ·simp only [Act.put, zA, zB, zC, i64_w, i32_w]
    rfl
   refine pure_ (i := 6) (N := some 42) (v := ?_) (a' := ?_) #[true, true, false, false, false, true, true, false, false, false, false, false] rfl rfl (any_of HT_.out (by kernel_rfl)) (fun _ _ _ h => h) (Or.inl ⟨by rfl, ?_⟩) ?_ ?_
   rotate_left
   ·intro w'
    go_simp
    with_reducible rfl
   rotate_left
   ·simp only [Act.put, zA, zB, zC, i64_w, i32_w]
    rfl
   refine take_ (i := 2) (N := some 38) (v := ?_) (a' := ?_) #[true, true, true, false, false, true, true, false, false, false, false, false] rfl rfl (take_ofW HT_.out HW_.out (by kernel_rfl)) (fun _ _ _ h => h) (Or.inl ⟨by rfl, ?_⟩) hHeld ?_ ?_
   rotate_left
   ·rintro w' ⟨s0, s1, s2, s3, s4, s5⟩
    go_simp
    with_reducible rfl
   rotate_left
   ·simp only [Act.put, zA, zB, zC, i64_w, i32_w]
    rfl
   refine pure_ (i := 3) (N := some 39) (v := ?_) (a' := ?_) #[true, true, true, true, false, true, true, false, false, false, false, false] rfl rfl (any_of HT_.out (by kernel_rfl)) (fun _ _ _ h => h) (Or.inl ⟨by rfl, ?_⟩) ?_ ?_
   rotate_left
   ·intro w'
    go_simp
    with_reducible rfl
   rotate_left
   ·simp only [Act.put, zA, zB, zC, i64_w, i32_w]
    rfl
   refine take_ (i := 4) (N := some 40) (v := ?_) (a' := ?_) #[true, true, true, true, true, true, true, false, false, false, false, false] rfl rfl (take_ofW HT_.out HW_.out (by kernel_rfl)) (fun _ _ _ h => h) (Or.inl ⟨by rfl, ?_⟩) hHeld ?_ ?_
   rotate_left
   ·rintro w' ⟨s0, s1, s2, s3, s4, s5⟩
    go_simp
    with_reducible rfl
   rotate_left
   ·simp only [Act.put, zA, zB, zC, i64_w, i32_w]
    rfl
   refine take_ (i := 7) (N := some 43) (v := ?_) (a' := ?_) #[true, true, true, true, true, true, true, true, false, false, false, false] rfl rfl (take_ofW HT_.out HW_.out (by kernel_rfl)) (fun _ _ _ h => h) (Or.inl ⟨by rfl, ?_⟩) hHeld ?_ ?_
   rotate_left
   ·rintro w' ⟨s0, s1, s2, s3, s4, s5⟩
    go_simp
    with_reducible rfl
   rotate_left
   ·simp only [Act.put, zA, zB, zC, i64_w, i32_w]
    rfl
   refine pure_ (i := 8) (N := some 44) (v := ?_) (a' := ?_) #[true, true, true, true, true, true, true, true, true, false, false, false] rfl rfl (any_of HT_.out (by kernel_rfl)) (fun _ _ _ h => h) (Or.inl ⟨by rfl, ?_⟩) ?_ ?_
   rotate_left
   ·intro w'
    go_simp
    with_reducible rfl
   rotate_left
   ·simp only [Act.put, zA, zB, zC, i64_w, i32_w]
    rfl
   refine take_ (i := 9) (N := some 45) (v := ?_) (a' := ?_) #[true, true, true, true, true, true, true, true, true, true, false, false] rfl rfl (take_ofW HT_.out HW_.out (by kernel_rfl)) (fun _ _ _ h => h) (Or.inl ⟨by rfl, ?_⟩) hHeld ?_ ?_
   rotate_left
   ·rintro w' ⟨s0, s1, s2, s3, s4, s5⟩
    go_simp
    with_reducible rfl
   rotate_left
   ·simp only [Act.put, zA, zB, zC, i64_w, i32_w]
    rfl
   refine pure_ (i := 10) (N := some 46) (v := ?_) (a' := ?_) #[true, true, true, true, true, true, true, true, true, true, true, false] rfl rfl (any_of HT_.out (by kernel_rfl)) (fun _ _ _ h => h) (Or.inl ⟨by rfl, ?_⟩) ?_ ?_
   rotate_left
   ·intro w'
    go_simp
    with_reducible rfl
   rotate_left
   ·simp only [Act.put, zA, zB, zC, i64_w, i32_w]
    rfl
   refine pure_ (i := 11) (N := some 10) (v := ?_) (a' := ?_) #[true, true, true, true, true, true, true, true, true, true, true, true] rfl rfl (any_of HT_.out (by kernel_rfl)) (fun _ _ _ h => h) (Or.inl ⟨by rfl, ?_⟩) ?_ ?_
   rotate_left
   ·intro w'
    go_simp
    with_reducible rfl
   rotate_left
   ·simp only [Act.put, zA, zB, zC, i64_w, i32_w]
    rfl
   refine done_ (done_of HT_.out (by kernel_rfl)) ?_
   try go_wp2
   go_ret
   exact ⟨by first | rfl | (simp [errW_none, errW_some] <;> rfl) | (simp [*, errW_none, errW_some] <;> rfl), by repeat (first | (with_reducible first | exact HB.out | apply yO | apply yN | apply yP | refine yQ ?_ GE925.out | refine yQ ?_ GE927.out) | exact HB.out)⟩
  ·rw [if_neg c19] at H
   have c19b0 : (((rd_T71 l1 a2).f0) == 2) = false := beq_eq_false_iff_ne.mpr c19
   have c19b1 : (((rd_T71 l1 a2).f0) != 2) = true := bne_iff_ne.mpr c19
   by_cases c30 : ((rd_T71 l1 a2).f0) = 3
   ·rw [if_pos c30] at H
    have c30b0 : (((rd_T71 l1 a2).f0) == 3) = true := beq_iff_eq.mpr c30
    have c30b1 : (((rd_T71 l1 a2).f0) != 3) = false := bne_eq_false_iff_eq.mpr c30
    clear c30
    obtain ⟨c31, H⟩ := iP H
    have c31b0 : decide (0 ≤ ((rd_T71 l1 a2).f1)) = true := zH c31
    clear c31
    obtain ⟨c32, H⟩ := iP H
    have c32b0 : decide (((rd_T71 l1 a2).f1) < (l3.length : Int)) = true := zH c32
    clear c32
    obtain ⟨c33, H⟩ := iP H
    have c33b0 : decide (0 ≤ ((rd_T71 l1 a2).f2)) = true := zH c33
    clear c33
    obtain ⟨c34, H⟩ := iP H
    have c34b0 : decide (((rd_T71 l1 a2).f2) < (l3.length : Int)) = true := zH c34
    clear c34
    obtain ⟨c35, H⟩ := iP H
    have c35b0 : decide (0 ≤ ((rd_T71 l1 a2).f3)) = true := zH c35
    clear c35
    obtain ⟨c36, H⟩ := iP H
    have c36b0 : decide (((rd_T71 l1 a2).f3) < (l3.length : Int)) = true := zH c36
    clear c36
    obtain rfl := zU H
    go_enter Try.func96, Try.ntmps96
    try go_wp2_with (first | ((with_reducible refine gate_dst (N := 5) rfl ?_); refine box_event ?hg (N := 5) ?hd (cs := #[.int .i64 a0_0, .slice A0_1 l0_1.length c0_1, .slice A0_2 l0_2.length c0_2]) (t := 32) ?hr ?_; (case hd => rfl); (case hg => rfl); (case hr => first | (go_simp; done) | (go_simp; rfl)); intro gb925 hg w37 hbox hb; have BK925 := yA (hbox); have GW925 := yA ((by rw [hg]; exact (yX (mB HB.out)) : w.heap.size ≤ gb925)); have GE925 := yA ((by rw [hg]; exact (yX (mB HB.out)) : w.heap.size ≤ gb925)); replace HB := yA (zD (mB HB.out) hb); clear hb hbox hg; have p926 : 0 ≤ (a2 : Int) := zG (by assumption); have q926 : a2 < (l1.length : Int) := zG (by assumption); obtain ⟨ad926, e926, hx926_0, hx926_1, hx926_2, hx926_3⟩ := at_T71 HR1.out a2 p926 q926; cases e926; replace hx926_0 := (HB.out.cell (zE w _ hx926_0)).trans hx926_0; replace hx926_1 := (HB.out.cell (zE w _ hx926_1)).trans hx926_1; replace hx926_2 := (HB.out.cell (zE w _ hx926_2)).trans hx926_2; replace hx926_3 := (HB.out.cell (zE w _ hx926_3)).trans hx926_3; replace p926 := eq_true p926; replace q926 := eq_true q926) | ((with_reducible refine gate_dst (N := 11) rfl ?_); refine box_event ?hg (N := 11) ?hd (cs := #[.int .i64 0, .int .i64 0, .int .i64 0, .int .i64 0]) (t := 71) ?hr ?_; (case hd => rfl); (case hg => rfl); (case hr => first | (go_simp; done) | (go_simp; rfl)); intro gb927 hg w38 hbox hb; have BK927 := yA (hbox); have GW927 := yA ((by rw [hg]; exact (yX (by with_reducible repeat first | exact HB.out | apply yO | apply yN | apply yP | refine yQ ?_ GE925.out)) : w.heap.size ≤ gb927)); have GE927 := yA ((by rw [hg]; exact (yX (by with_reducible repeat first | exact HB.out | apply yO | apply yN | apply yP | refine yQ ?_ GE925.out)) : w.heap.size ≤ gb927)); replace HB := yA (zD (by with_reducible repeat first | exact HB.out | apply yO | apply yN | apply yP | refine yQ ?_ GE925.out) hb); have NB925_927 := yA ((by rw [hg]; exact Nat.ne_of_lt (zX (mK BK925.out)) : gb925 ≠ gb927)); have NB927_925 := yA ((by rw [hg]; exact Nat.ne_of_gt (zX (mK BK925.out)) : gb927 ≠ gb925)); replace BK925 := yA (yU (mK BK925.out) hb); clear hb hbox hg; have hnb39 := NB927_925.out; have hnc39 := NB925_927.out; have hcz40_0 : w38.cell? ⟨gb927, 0, none⟩ = some (.int .i64 0) := (yV BK927.out 0).trans rfl; have hcz40_1 : w38.cell? ⟨gb927, 1, none⟩ = some (.int .i64 0) := (yV BK927.out 1).trans rfl; have hcz40_2 : w38.cell? ⟨gb927, 2, none⟩ = some (.int .i64 0) := (yV BK927.out 2).trans rfl; have hcz40_3 : w38.cell? ⟨gb927, 3, none⟩ = some (.int .i64 0) := (yV BK927.out 3).trans rfl; have hfz40_0 := yW BK927.out 0; have hfz40_1 := yW BK927.out 1; have hfz40_2 := yW BK927.out 2; have hfz40_3 := yW BK927.out 3))
    have n0_ : Aside0 (((((w38.setCell ⟨gb927, 0, none⟩ (.int .i64 ((rd_T71 l1 a2).f0))).setCell ⟨gb927, 1, none⟩ (.int .i64 ((rd_T71 l1 a2).f1))).setCell ⟨gb927, 2, none⟩ (.int .i64 ((rd_T71 l1 a2).f2))).setCell ⟨gb927, 3, none⟩ (.int .i64 ((rd_T71 l1 a2).f3))).heap[gb925]? = some (.cells #[.int .i64 a0_0, .slice A0_1 l0_1.length c0_1, .slice A0_2 l0_2.length c0_2] 32 (0, 0))) := ⟨by (with_reducible repeat (first | refine yS ?_ _ | refine yT ?_ | refine yR ?_ _)); refine blk_far ?_ NB925_927.out _; (with_reducible repeat (first | refine yS ?_ _ | refine yT ?_ | refine yR ?_ _)); refine blk_far ?_ NB925_927.out _; (with_reducible repeat (first | refine yS ?_ _ | refine yT ?_ | refine yR ?_ _)); refine blk_far ?_ NB925_927.out _; (with_reducible repeat (first | refine yS ?_ _ | refine yT ?_ | refine yR ?_ _)); refine blk_far ?_ NB925_927.out _; (with_reducible repeat (first | refine yS ?_ _ | refine yT ?_ | refine yR ?_ _)); exact BK925.out⟩
    have n1_ : Aside0 (((((w38.setCell ⟨gb927, 0, none⟩ (.int .i64 ((rd_T71 l1 a2).f0))).setCell ⟨gb927, 1, none⟩ (.int .i64 ((rd_T71 l1 a2).f1))).setCell ⟨gb927, 2, none⟩ (.int .i64 ((rd_T71 l1 a2).f2))).setCell ⟨gb927, 3, none⟩ (.int .i64 ((rd_T71 l1 a2).f3))).heap[gb927]? = some (.cells #[.int .i64 ((rd_T71 l1 a2).f0), .int .i64 ((rd_T71 l1 a2).f1), .int .i64 ((rd_T71 l1 a2).f2), .int .i64 ((rd_T71 l1 a2).f3)] 71 (0, 0))) := ⟨by (with_reducible repeat (first | refine yS ?_ _ | refine yT ?_ | refine yR ?_ _)); refine blk_put (cs := #[.int .i64 ((rd_T71 l1 a2).f0), .int .i64 ((rd_T71 l1 a2).f1), .int .i64 ((rd_T71 l1 a2).f2), .int .i64 0]) ?_ 3 _ rfl; (with_reducible repeat (first | refine yS ?_ _ | refine yT ?_ | refine yR ?_ _)); refine blk_put (cs := #[.int .i64 ((rd_T71 l1 a2).f0), .int .i64 ((rd_T71 l1 a2).f1), .int .i64 0, .int .i64 0]) ?_ 2 _ rfl; (with_reducible repeat (first | refine yS ?_ _ | refine yT ?_ | refine yR ?_ _)); refine blk_put (cs := #[.int .i64 ((rd_T71 l1 a2).f0), .int .i64 0, .int .i64 0, .int .i64 0]) ?_ 1 _ rfl; (with_reducible repeat (first | refine yS ?_ _ | refine yT ?_ | refine yR ?_ _)); refine blk_put (cs := #[.int .i64 0, .int .i64 0, .int .i64 0, .int .i64 0]) ?_ 0 _ rfl; (with_reducible repeat (first | refine yS ?_ _ | refine yT ?_ | refine yR ?_ _)); exact BK927.out⟩
    have n2_ : Aside0 (Below w.heap.size w ((((w38.setCell ⟨gb927, 0, none⟩ (.int .i64 ((rd_T71 l1 a2).f0))).setCell ⟨gb927, 1, none⟩ (.int .i64 ((rd_T71 l1 a2).f1))).setCell ⟨gb927, 2, none⟩ (.int .i64 ((rd_T71 l1 a2).f2))).setCell ⟨gb927, 3, none⟩ (.int .i64 ((rd_T71 l1 a2).f3)))) := ⟨by repeat (first | (with_reducible first | exact HB.out | apply yO | apply yN | apply yP | refine yQ ?_ GE925.out | refine yQ ?_ GE927.out) | exact HB.out)⟩
    (try clear BK925)
    (try clear BK927)
    (try clear HB)
    generalize ((((w38.setCell ⟨gb927, 0, none⟩ (.int .i64 ((rd_T71 l1 a2).f0))).setCell ⟨gb927, 1, none⟩ (.int .i64 ((rd_T71 l1 a2).f1))).setCell ⟨gb927, 2, none⟩ (.int .i64 ((rd_T71 l1 a2).f2))).setCell ⟨gb927, 3, none⟩ (.int .i64 ((rd_T71 l1 a2).f3))) = w41 at n0_ n1_ n2_ ⊢
    have BK925 := n0_
    have BK927 := n1_
    have HB := n2_
    clear n0_ n1_ n2_
    replace BK925 := yA (yT BK925.out)
    replace BK927 := yA (yT BK927.out)
    replace HB := yA (yP HB.out)
    have p932 : 0 ≤ (((rd_T71 l1 a2).f1) : Int) := zG (by assumption)
    have q932 : ((rd_T71 l1 a2).f1) < (l3.length : Int) := zG (by assumption)
    obtain ⟨ad932, e932, hx932_0⟩ := Kd.at_int HR3.out ((rd_T71 l1 a2).f1) p932 q932
    have hw932_0 := hx932_0
    cases e932
    try replace hx932_0 := (HB.out.cell (zE w _ hx932_0)).trans hx932_0
    replace p932 := eq_true p932
    replace q932 := eq_true q932
    have p933 : 0 ≤ (((rd_T71 l1 a2).f2) : Int) := zG (by assumption)
    have q933 : ((rd_T71 l1 a2).f2) < (l3.length : Int) := zG (by assumption)
    obtain ⟨ad933, e933, hx933_0⟩ := Kd.at_int HR3.out ((rd_T71 l1 a2).f2) p933 q933
    have hw933_0 := hx933_0
    obtain rfl : ad932 = ad933 := (by injection e933)
    try replace hx933_0 := (HB.out.cell (zE w _ hx933_0)).trans hx933_0
    replace p933 := eq_true p933
    replace q933 := eq_true q933
    have p934 : 0 ≤ (((rd_T71 l1 a2).f3) : Int) := zG (by assumption)
    have q934 : ((rd_T71 l1 a2).f3) < (l3.length : Int) := zG (by assumption)
    obtain ⟨ad934, e934, hx934_0⟩ := Kd.at_int HR3.out ((rd_T71 l1 a2).f3) p934 q934
    have hw934_0 := hx934_0
    obtain rfl : ad932 = ad934 := (by injection e934)
    try replace hx934_0 := (HB.out.cell (zE w _ hx934_0)).trans hx934_0
    replace p934 := eq_true p934
    replace q934 := eq_true q934
    refine start_ (n := 18) (S := fun w' => w'.cell? ⟨gb927, 0, none⟩ = some (.int .i64 ((rd_T71 l1 a2).f0)) ∧ w'.cell? ⟨gb927, 1, none⟩ = some (.int .i64 ((rd_T71 l1 a2).f1)) ∧ w'.cell? ⟨gb927, 2, none⟩ = some (.int .i64 ((rd_T71 l1 a2).f2)) ∧ w'.cell? ⟨gb927, 3, none⟩ = some (.int .i64 ((rd_T71 l1 a2).f3)) ∧ w'.cell? (ad932.add (((rd_T71 l1 a2).f1)).toNat) = some (.int .i64 (rd l3 ((rd_T71 l1 a2).f1))) ∧ w'.cell? (ad932.add (((rd_T71 l1 a2).f2)).toNat) = some (.int .i64 (rd l3 ((rd_T71 l1 a2).f2))) ∧ w'.cell? (ad932.add (((rd_T71 l1 a2).f3)).toNat) = some (.int .i64 (rd l3 ((rd_T71 l1 a2).f3)))) (ds := []) #[false, false, false, false, false, false, false, false, false, false, false, false, false, false, false, false, false, false] (by kernel_rfl) rfl rfl ⟨(yV BK927.out 0).trans rfl, (yV BK927.out 1).trans rfl, (yV BK927.out 2).trans rfl, (yV BK927.out 3).trans rfl, ((HB.out.cell (zE w _ hw932_0)).trans hw932_0), ((HB.out.cell (zE w _ hw933_0)).trans hw933_0), ((HB.out.cell (zE w _ hw934_0)).trans hw934_0)⟩ (fun hHeld => ?_); refine with_tabW spec_l19Node.tab8 spec_l19Node.bits8 (fun HT_ HW_ => ?_)
    generalize w41.drew = w42 at BK925 BK927 HB hx932_0 hx933_0 hx934_0 hHeld ⊢
    refine pure_ (i := 0) (N := some 49) (v := ?_) (a' := ?_) #[true, false, false, false, false, false, false, false, false, false, false, false, false, false, false, false, false, false] rfl rfl (any_of HT_.out (by kernel_rfl)) (fun _ _ _ h => h) (Or.inl ⟨by rfl, ?_⟩) ?_ ?_
    rotate_left
    ·intro w'
     go_simp
     with_reducible rfl
    rotate_left
    ·simp only [Act.put, zA, zB, zC, i64_w, i32_w]
     rfl
    refine pure_ (i := 1) (N := some 50) (v := ?_) (a' := ?_) #[true, true, false, false, false, false, false, false, false, false, false, false, false, false, false, false, false, false] rfl rfl (any_of HT_.out (by kernel_rfl)) (fun _ _ _ h => h) (Or.inl ⟨by rfl, ?_⟩) ?_ ?_
    rotate_left
    ·intro w'
     go_simp
     with_reducible rfl
    rotate_left
    ·simp only [Act.put, zA, zB, zC, i64_w, i32_w]
     rfl
    refine pure_ (i := 5) (N := some 54) (v := ?_) (a' := ?_) #[true, true, false, false, false, true, false, false, false, false, false, false, false, false, false, false, false, false] rfl rfl (any_of HT_.out (by kernel_rfl)) (fun _ _ _ h => h) (Or.inl ⟨by rfl, ?_⟩) ?_ ?_
    rotate_left
    ·intro w'
     go_simp
     with_reducible rfl
    rotate_left
    ·simp only [Act.put, zA, zB, zC, i64_w, i32_w]
     rfl
    refine pure_ (i := 6) (N := some 55) (v := ?_) (a' := ?_) #[true, true, false, false, false, true, true, false, false, false, false, false, false, false, false, false, false, false] rfl rfl (any_of HT_.out (by kernel_rfl)) (fun _ _ _ h => h) (Or.inl ⟨by rfl, ?_⟩) ?_ ?_
    rotate_left
    ·intro w'
     go_simp
     with_reducible rfl
    rotate_left
    ·simp only [Act.put, zA, zB, zC, i64_w, i32_w]
     rfl
    refine pure_ (i := 11) (N := some 60) (v := ?_) (a' := ?_) #[true, true, false, false, false, true, true, false, false, false, false, true, false, false, false, false, false, false] rfl rfl (any_of HT_.out (by kernel_rfl)) (fun _ _ _ h => h) (Or.inl ⟨by rfl, ?_⟩) ?_ ?_
    rotate_left
    ·intro w'
     go_simp
     with_reducible rfl
    rotate_left
    ·simp only [Act.put, zA, zB, zC, i64_w, i32_w]
     rfl
    refine pure_ (i := 12) (N := some 61) (v := ?_) (a' := ?_) #[true, true, false, false, false, true, true, false, false, false, false, true, true, false, false, false, false, false] rfl rfl (any_of HT_.out (by kernel_rfl)) (fun _ _ _ h => h) (Or.inl ⟨by rfl, ?_⟩) ?_ ?_
    rotate_left
    ·intro w'
     go_simp
     with_reducible rfl
    rotate_left
    ·simp only [Act.put, zA, zB, zC, i64_w, i32_w]
     rfl
    refine take_ (i := 2) (N := some 51) (v := ?_) (a' := ?_) #[true, true, true, false, false, true, true, false, false, false, false, true, true, false, false, false, false, false] rfl rfl (take_ofW HT_.out HW_.out (by kernel_rfl)) (fun _ _ _ h => h) (Or.inl ⟨by rfl, ?_⟩) hHeld ?_ ?_
    rotate_left
    ·rintro w' ⟨s0, s1, s2, s3, s4, s5, s6⟩
     go_simp
     with_reducible rfl
    rotate_left
    ·simp only [Act.put, zA, zB, zC, i64_w, i32_w]
     rfl
    refine pure_ (i := 3) (N := some 52) (v := ?_) (a' := ?_) #[true, true, true, true, false, true, true, false, false, false, false, true, true, false, false, false, false, false] rfl rfl (any_of HT_.out (by kernel_rfl)) (fun _ _ _ h => h) (Or.inl ⟨by rfl, ?_⟩) ?_ ?_
    rotate_left
    ·intro w'
     go_simp
     with_reducible rfl
    rotate_left
    ·simp only [Act.put, zA, zB, zC, i64_w, i32_w]
     rfl
    refine take_ (i := 4) (N := some 53) (v := ?_) (a' := ?_) #[true, true, true, true, true, true, true, false, false, false, false, true, true, false, false, false, false, false] rfl rfl (take_ofW HT_.out HW_.out (by kernel_rfl)) (fun _ _ _ h => h) (Or.inl ⟨by rfl, ?_⟩) hHeld ?_ ?_
    rotate_left
    ·rintro w' ⟨s0, s1, s2, s3, s4, s5, s6⟩
     go_simp
     with_reducible rfl
    rotate_left
    ·simp only [Act.put, zA, zB, zC, i64_w, i32_w]
     rfl
    refine take_ (i := 7) (N := some 56) (v := ?_) (a' := ?_) #[true, true, true, true, true, true, true, true, false, false, false, true, true, false, false, false, false, false] rfl rfl (take_ofW HT_.out HW_.out (by kernel_rfl)) (fun _ _ _ h => h) (Or.inl ⟨by rfl, ?_⟩) hHeld ?_ ?_
    rotate_left
    ·rintro w' ⟨s0, s1, s2, s3, s4, s5, s6⟩
     go_simp
     with_reducible rfl
    rotate_left
    ·simp only [Act.put, zA, zB, zC, i64_w, i32_w]
     rfl
    refine pure_ (i := 8) (N := some 57) (v := ?_) (a' := ?_) #[true, true, true, true, true, true, true, true, true, false, false, true, true, false, false, false, false, false] rfl rfl (any_of HT_.out (by kernel_rfl)) (fun _ _ _ h => h) (Or.inl ⟨by rfl, ?_⟩) ?_ ?_
    rotate_left
    ·intro w'
     go_simp
     with_reducible rfl
    rotate_left
    ·simp only [Act.put, zA, zB, zC, i64_w, i32_w]
     rfl
    refine take_ (i := 9) (N := some 58) (v := ?_) (a' := ?_) #[true, true, true, true, true, true, true, true, true, true, false, true, true, false, false, false, false, false] rfl rfl (take_ofW HT_.out HW_.out (by kernel_rfl)) (fun _ _ _ h => h) (Or.inl ⟨by rfl, ?_⟩) hHeld ?_ ?_
    rotate_left
    ·rintro w' ⟨s0, s1, s2, s3, s4, s5, s6⟩
     go_simp
     with_reducible rfl
    rotate_left
    ·simp only [Act.put, zA, zB, zC, i64_w, i32_w]
     rfl
    refine pure_ (i := 10) (N := some 59) (v := ?_) (a' := ?_) #[true, true, true, true, true, true, true, true, true, true, true, true, true, false, false, false, false, false] rfl rfl (any_of HT_.out (by kernel_rfl)) (fun _ _ _ h => h) (Or.inl ⟨by rfl, ?_⟩) ?_ ?_
    rotate_left
    ·intro w'
     go_simp
     with_reducible rfl
    rotate_left
    ·simp only [Act.put, zA, zB, zC, i64_w, i32_w]
     rfl
    refine take_ (i := 13) (N := some 62) (v := ?_) (a' := ?_) #[true, true, true, true, true, true, true, true, true, true, true, true, true, true, false, false, false, false] rfl rfl (take_ofW HT_.out HW_.out (by kernel_rfl)) (fun _ _ _ h => h) (Or.inl ⟨by rfl, ?_⟩) hHeld ?_ ?_
    rotate_left
    ·rintro w' ⟨s0, s1, s2, s3, s4, s5, s6⟩
     go_simp
     with_reducible rfl
    rotate_left
    ·simp only [Act.put, zA, zB, zC, i64_w, i32_w]
     rfl
    refine pure_ (i := 14) (N := some 63) (v := ?_) (a' := ?_) #[true, true, true, true, true, true, true, true, true, true, true, true, true, true, true, false, false, false] rfl rfl (any_of HT_.out (by kernel_rfl)) (fun _ _ _ h => h) (Or.inl ⟨by rfl, ?_⟩) ?_ ?_
    rotate_left
    ·intro w'
     go_simp
     with_reducible rfl
    rotate_left
    ·simp only [Act.put, zA, zB, zC, i64_w, i32_w]
     rfl
    refine take_ (i := 15) (N := some 64) (v := ?_) (a' := ?_) #[true, true, true, true, true, true, true, true, true, true, true, true, true, true, true, true, false, false] rfl rfl (take_ofW HT_.out HW_.out (by kernel_rfl)) (fun _ _ _ h => h) (Or.inl ⟨by rfl, ?_⟩) hHeld ?_ ?_
    rotate_left
    ·rintro w' ⟨s0, s1, s2, s3, s4, s5, s6⟩
     go_simp
     with_reducible rfl
    rotate_left
    ·simp only [Act.put, zA, zB, zC, i64_w, i32_w]
     rfl
    refine pure_ (i := 16) (N := some 65) (v := ?_) (a' := ?_) #[true, true, true, true, true, true, true, true, true, true, true, true, true, true, true, true, true, false] rfl rfl (any_of HT_.out (by kernel_rfl)) (fun _ _ _ h => h) (Or.inl ⟨by rfl, ?_⟩) ?_ ?_
    rotate_left
    ·intro w'
     go_simp
     with_reducible rfl
    rotate_left
    ·simp only [Act.put, zA, zB, zC, i64_w, i32_w]
     rfl
    refine pure_ (i := 17) (N := some 10) (v := ?_) (a' := ?_) #[true, true, true, true, true, true, true, true, true, true, true, true, true, true, true, true, true, true] rfl rfl (any_of HT_.out (by kernel_rfl)) (fun _ _ _ h => h) (Or.inl ⟨by rfl, ?_⟩) ?_ ?_
    rotate_left
    ·intro w'
     go_simp
     with_reducible rfl
    rotate_left
    ·simp only [Act.put, zA, zB, zC, i64_w, i32_w]
     rfl
    refine done_ (done_of HT_.out (by kernel_rfl)) ?_
    try go_wp2
    go_ret
    exact ⟨by first | rfl | (simp [errW_none, errW_some] <;> rfl) | (simp [*, errW_none, errW_some] <;> rfl), by repeat (first | (with_reducible first | exact HB.out | apply yO | apply yN | apply yP | refine yQ ?_ GE925.out | refine yQ ?_ GE927.out) | exact HB.out)⟩
   ·rw [if_neg c30] at H
    have c30b0 : (((rd_T71 l1 a2).f0) == 3) = false := beq_eq_false_iff_ne.mpr c30
    have c30b1 : (((rd_T71 l1 a2).f0) != 3) = true := bne_iff_ne.mpr c30
    by_cases c43 : ((rd_T71 l1 a2).f0) = 4
    ·rw [if_pos c43] at H
     have c43b0 : (((rd_T71 l1 a2).f0) == 4) = true := beq_iff_eq.mpr c43
     have c43b1 : (((rd_T71 l1 a2).f0) != 4) = false := bne_eq_false_iff_eq.mpr c43
     clear c43
     obtain ⟨c44, H⟩ := iP H
     have c44b0 : decide (0 ≤ ((rd_T71 l1 a2).f1)) = true := zH c44
     clear c44
     obtain ⟨c45, H⟩ := iP H
     have c45b0 : decide (((rd_T71 l1 a2).f1) < (l3.length : Int)) = true := zH c45
     clear c45
     obtain rfl := zU H
     go_enter Try.func96, Try.ntmps96
     try go_wp2_with (first | ((with_reducible refine gate_dst (N := 5) rfl ?_); refine box_event ?hg (N := 5) ?hd (cs := #[.int .i64 a0_0, .slice A0_1 l0_1.length c0_1, .slice A0_2 l0_2.length c0_2]) (t := 32) ?hr ?_; (case hd => rfl); (case hg => rfl); (case hr => first | (go_simp; done) | (go_simp; rfl)); intro gb925 hg w46 hbox hb; have BK925 := yA (hbox); have GW925 := yA ((by rw [hg]; exact (yX (mB HB.out)) : w.heap.size ≤ gb925)); have GE925 := yA ((by rw [hg]; exact (yX (mB HB.out)) : w.heap.size ≤ gb925)); replace HB := yA (zD (mB HB.out) hb); clear hb hbox hg; have p926 : 0 ≤ (a2 : Int) := zG (by assumption); have q926 : a2 < (l1.length : Int) := zG (by assumption); obtain ⟨ad926, e926, hx926_0, hx926_1, hx926_2, hx926_3⟩ := at_T71 HR1.out a2 p926 q926; cases e926; replace hx926_0 := (HB.out.cell (zE w _ hx926_0)).trans hx926_0; replace hx926_1 := (HB.out.cell (zE w _ hx926_1)).trans hx926_1; replace hx926_2 := (HB.out.cell (zE w _ hx926_2)).trans hx926_2; replace hx926_3 := (HB.out.cell (zE w _ hx926_3)).trans hx926_3; replace p926 := eq_true p926; replace q926 := eq_true q926) | ((with_reducible refine gate_dst (N := 11) rfl ?_); refine box_event ?hg (N := 11) ?hd (cs := #[.int .i64 0, .int .i64 0, .int .i64 0, .int .i64 0]) (t := 71) ?hr ?_; (case hd => rfl); (case hg => rfl); (case hr => first | (go_simp; done) | (go_simp; rfl)); intro gb927 hg w47 hbox hb; have BK927 := yA (hbox); have GW927 := yA ((by rw [hg]; exact (yX (by with_reducible repeat first | exact HB.out | apply yO | apply yN | apply yP | refine yQ ?_ GE925.out)) : w.heap.size ≤ gb927)); have GE927 := yA ((by rw [hg]; exact (yX (by with_reducible repeat first | exact HB.out | apply yO | apply yN | apply yP | refine yQ ?_ GE925.out)) : w.heap.size ≤ gb927)); replace HB := yA (zD (by with_reducible repeat first | exact HB.out | apply yO | apply yN | apply yP | refine yQ ?_ GE925.out) hb); have NB925_927 := yA ((by rw [hg]; exact Nat.ne_of_lt (zX (mK BK925.out)) : gb925 ≠ gb927)); have NB927_925 := yA ((by rw [hg]; exact Nat.ne_of_gt (zX (mK BK925.out)) : gb927 ≠ gb925)); replace BK925 := yA (yU (mK BK925.out) hb); clear hb hbox hg; have hnb48 := NB927_925.out; have hnc48 := NB925_927.out; have hcz49_0 : w47.cell? ⟨gb927, 0, none⟩ = some (.int .i64 0) := (yV BK927.out 0).trans rfl; have hcz49_1 : w47.cell? ⟨gb927, 1, none⟩ = some (.int .i64 0) := (yV BK927.out 1).trans rfl; have hcz49_2 : w47.cell? ⟨gb927, 2, none⟩ = some (.int .i64 0) := (yV BK927.out 2).trans rfl; have hcz49_3 : w47.cell? ⟨gb927, 3, none⟩ = some (.int .i64 0) := (yV BK927.out 3).trans rfl; have hfz49_0 := yW BK927.out 0; have hfz49_1 := yW BK927.out 1; have hfz49_2 := yW BK927.out 2; have hfz49_3 := yW BK927.out 3))
     have n0_ : Aside0 (((((w47.setCell ⟨gb927, 0, none⟩ (.int .i64 ((rd_T71 l1 a2).f0))).setCell ⟨gb927, 1, none⟩ (.int .i64 ((rd_T71 l1 a2).f1))).setCell ⟨gb927, 2, none⟩ (.int .i64 ((rd_T71 l1 a2).f2))).setCell ⟨gb927, 3, none⟩ (.int .i64 ((rd_T71 l1 a2).f3))).heap[gb925]? = some (.cells #[.int .i64 a0_0, .slice A0_1 l0_1.length c0_1, .slice A0_2 l0_2.length c0_2] 32 (0, 0))) := ⟨by (with_reducible repeat (first | refine yS ?_ _ | refine yT ?_ | refine yR ?_ _)); refine blk_far ?_ NB925_927.out _; (with_reducible repeat (first | refine yS ?_ _ | refine yT ?_ | refine yR ?_ _)); refine blk_far ?_ NB925_927.out _; (with_reducible repeat (first | refine yS ?_ _ | refine yT ?_ | refine yR ?_ _)); refine blk_far ?_ NB925_927.out _; (with_reducible repeat (first | refine yS ?_ _ | refine yT ?_ | refine yR ?_ _)); refine blk_far ?_ NB925_927.out _; (with_reducible repeat (first | refine yS ?_ _ | refine yT ?_ | refine yR ?_ _)); exact BK925.out⟩
     have n1_ : Aside0 (((((w47.setCell ⟨gb927, 0, none⟩ (.int .i64 ((rd_T71 l1 a2).f0))).setCell ⟨gb927, 1, none⟩ (.int .i64 ((rd_T71 l1 a2).f1))).setCell ⟨gb927, 2, none⟩ (.int .i64 ((rd_T71 l1 a2).f2))).setCell ⟨gb927, 3, none⟩ (.int .i64 ((rd_T71 l1 a2).f3))).heap[gb927]? = some (.cells #[.int .i64 ((rd_T71 l1 a2).f0), .int .i64 ((rd_T71 l1 a2).f1), .int .i64 ((rd_T71 l1 a2).f2), .int .i64 ((rd_T71 l1 a2).f3)] 71 (0, 0))) := ⟨by (with_reducible repeat (first | refine yS ?_ _ | refine yT ?_ | refine yR ?_ _)); refine blk_put (cs := #[.int .i64 ((rd_T71 l1 a2).f0), .int .i64 ((rd_T71 l1 a2).f1), .int .i64 ((rd_T71 l1 a2).f2), .int .i64 0]) ?_ 3 _ rfl; (with_reducible repeat (first | refine yS ?_ _ | refine yT ?_ | refine yR ?_ _)); refine blk_put (cs := #[.int .i64 ((rd_T71 l1 a2).f0), .int .i64 ((rd_T71 l1 a2).f1), .int .i64 0, .int .i64 0]) ?_ 2 _ rfl; (with_reducible repeat (first | refine yS ?_ _ | refine yT ?_ | refine yR ?_ _)); refine blk_put (cs := #[.int .i64 ((rd_T71 l1 a2).f0), .int .i64 0, .int .i64 0, .int .i64 0]) ?_ 1 _ rfl; (with_reducible repeat (first | refine yS ?_ _ | refine yT ?_ | refine yR ?_ _)); refine blk_put (cs := #[.int .i64 0, .int .i64 0, .int .i64 0, .int .i64 0]) ?_ 0 _ rfl; (with_reducible repeat (first | refine yS ?_ _ | refine yT ?_ | refine yR ?_ _)); exact BK927.out⟩
     have n2_ : Aside0 (Below w.heap.size w ((((w47.setCell ⟨gb927, 0, none⟩ (.int .i64 ((rd_T71 l1 a2).f0))).setCell ⟨gb927, 1, none⟩ (.int .i64 ((rd_T71 l1 a2).f1))).setCell ⟨gb927, 2, none⟩ (.int .i64 ((rd_T71 l1 a2).f2))).setCell ⟨gb927, 3, none⟩ (.int .i64 ((rd_T71 l1 a2).f3)))) := ⟨by repeat (first | (with_reducible first | exact HB.out | apply yO | apply yN | apply yP | refine yQ ?_ GE925.out | refine yQ ?_ GE927.out) | exact HB.out)⟩
     (try clear BK925)
     (try clear BK927)
     (try clear HB)
     generalize ((((w47.setCell ⟨gb927, 0, none⟩ (.int .i64 ((rd_T71 l1 a2).f0))).setCell ⟨gb927, 1, none⟩ (.int .i64 ((rd_T71 l1 a2).f1))).setCell ⟨gb927, 2, none⟩ (.int .i64 ((rd_T71 l1 a2).f2))).setCell ⟨gb927, 3, none⟩ (.int .i64 ((rd_T71 l1 a2).f3))) = w50 at n0_ n1_ n2_ ⊢
     have BK925 := n0_
     have BK927 := n1_
     have HB := n2_
     clear n0_ n1_ n2_
     replace BK925 := yA (yT BK925.out)
     replace BK927 := yA (yT BK927.out)
     replace HB := yA (yP HB.out)
     have p935 : 0 ≤ (((rd_T71 l1 a2).f1) : Int) := zG (by assumption)
     have q935 : ((rd_T71 l1 a2).f1) < (l3.length : Int) := zG (by assumption)
     obtain ⟨ad935, e935, hx935_0⟩ := Kd.at_int HR3.out ((rd_T71 l1 a2).f1) p935 q935
     have hw935_0 := hx935_0
     cases e935
     try replace hx935_0 := (HB.out.cell (zE w _ hx935_0)).trans hx935_0
     replace p935 := eq_true p935
     replace q935 := eq_true q935
     refine start_ (n := 9) (S := fun w' => w'.cell? ⟨gb927, 0, none⟩ = some (.int .i64 ((rd_T71 l1 a2).f0)) ∧ w'.cell? ⟨gb927, 1, none⟩ = some (.int .i64 ((rd_T71 l1 a2).f1)) ∧ w'.cell? ⟨gb927, 2, none⟩ = some (.int .i64 ((rd_T71 l1 a2).f2)) ∧ w'.cell? ⟨gb927, 3, none⟩ = some (.int .i64 ((rd_T71 l1 a2).f3)) ∧ w'.cell? (ad935.add (((rd_T71 l1 a2).f1)).toNat) = some (.int .i64 (rd l3 ((rd_T71 l1 a2).f1)))) (ds := []) #[false, false, false, false, false, false, false, false, false] (by kernel_rfl) rfl rfl ⟨(yV BK927.out 0).trans rfl, (yV BK927.out 1).trans rfl, (yV BK927.out 2).trans rfl, (yV BK927.out 3).trans rfl, ((HB.out.cell (zE w _ hw935_0)).trans hw935_0)⟩ (fun hHeld => ?_); refine with_tabW spec_l19Node.tab10 spec_l19Node.bits10 (fun HT_ HW_ => ?_)
     generalize w50.drew = w51 at BK925 BK927 HB hx935_0 hHeld ⊢
     refine pure_ (i := 0) (N := some 68) (v := ?_) (a' := ?_) #[true, false, false, false, false, false, false, false, false] rfl rfl (any_of HT_.out (by kernel_rfl)) (fun _ _ _ h => h) (Or.inl ⟨by rfl, ?_⟩) ?_ ?_
     rotate_left
     ·intro w'
      go_simp
      with_reducible rfl
     rotate_left
     ·simp only [Act.put, zA, zB, zC, i64_w, i32_w]
      rfl
     refine pure_ (i := 1) (N := some 69) (v := ?_) (a' := ?_) #[true, true, false, false, false, false, false, false, false] rfl rfl (any_of HT_.out (by kernel_rfl)) (fun _ _ _ h => h) (Or.inl ⟨by rfl, ?_⟩) ?_ ?_
     rotate_left
     ·intro w'
      go_simp
      with_reducible rfl
     rotate_left
     ·simp only [Act.put, zA, zB, zC, i64_w, i32_w]
      rfl
     refine pure_ (i := 5) (N := some 73) (v := ?_) (a' := ?_) #[true, true, false, false, false, true, false, false, false] rfl rfl (any_of HT_.out (by kernel_rfl)) (fun _ _ _ h => h) (Or.inl ⟨by rfl, ?_⟩) ?_ ?_
     rotate_left
     ·intro w'
      go_simp
      with_reducible rfl
     rotate_left
     ·simp only [Act.put, zA, zB, zC, i64_w, i32_w]
      rfl
     refine take_ (i := 2) (N := some 70) (v := ?_) (a' := ?_) #[true, true, true, false, false, true, false, false, false] rfl rfl (take_ofW HT_.out HW_.out (by kernel_rfl)) (fun _ _ _ h => h) (Or.inl ⟨by rfl, ?_⟩) hHeld ?_ ?_
     rotate_left
     ·rintro w' ⟨s0, s1, s2, s3, s4⟩
      go_simp
      with_reducible rfl
     rotate_left
     ·simp only [Act.put, zA, zB, zC, i64_w, i32_w]
      rfl
     refine pure_ (i := 3) (N := some 71) (v := ?_) (a' := ?_) #[true, true, true, true, false, true, false, false, false] rfl rfl (any_of HT_.out (by kernel_rfl)) (fun _ _ _ h => h) (Or.inl ⟨by rfl, ?_⟩) ?_ ?_
     rotate_left
     ·intro w'
      go_simp
      with_reducible rfl
     rotate_left
     ·simp only [Act.put, zA, zB, zC, i64_w, i32_w]
      rfl
     refine take_ (i := 4) (N := some 72) (v := ?_) (a' := ?_) #[true, true, true, true, true, true, false, false, false] rfl rfl (take_ofW HT_.out HW_.out (by kernel_rfl)) (fun _ _ _ h => h) (Or.inl ⟨by rfl, ?_⟩) hHeld ?_ ?_
     rotate_left
     ·rintro w' ⟨s0, s1, s2, s3, s4⟩
      go_simp
      with_reducible rfl
     rotate_left
     ·simp only [Act.put, zA, zB, zC, i64_w, i32_w]
      rfl
     refine take_ (i := 6) (N := some 74) (v := ?_) (a' := ?_) #[true, true, true, true, true, true, true, false, false] rfl rfl (take_ofW HT_.out HW_.out (by kernel_rfl)) (fun _ _ _ h => h) (Or.inl ⟨by rfl, ?_⟩) hHeld ?_ ?_
     rotate_left
     ·rintro w' ⟨s0, s1, s2, s3, s4⟩
      go_simp
      with_reducible rfl
     rotate_left
     ·simp only [Act.put, zA, zB, zC, i64_w, i32_w]
      rfl
     refine pure_ (i := 7) (N := some 75) (v := ?_) (a' := ?_) #[true, true, true, true, true, true, true, true, false] rfl rfl (any_of HT_.out (by kernel_rfl)) (fun _ _ _ h => h) (Or.inl ⟨by rfl, ?_⟩) ?_ ?_
     rotate_left
     ·intro w'
      go_simp
      with_reducible rfl
     rotate_left
     ·simp only [Act.put, zA, zB, zC, i64_w, i32_w]
      rfl
     refine pure_ (i := 8) (N := some 10) (v := ?_) (a' := ?_) #[true, true, true, true, true, true, true, true, true] rfl rfl (any_of HT_.out (by kernel_rfl)) (fun _ _ _ h => h) (Or.inl ⟨by rfl, ?_⟩) ?_ ?_
     rotate_left
     ·intro w'
      go_simp
      with_reducible rfl
     rotate_left
     ·simp only [Act.put, zA, zB, zC, i64_w, i32_w]
      rfl
     refine done_ (done_of HT_.out (by kernel_rfl)) ?_
     try go_wp2
     go_ret
     exact ⟨by first | rfl | (simp [errW_none, errW_some] <;> rfl) | (simp [*, errW_none, errW_some] <;> rfl), by repeat (first | (with_reducible first | exact HB.out | apply yO | apply yN | apply yP | refine yQ ?_ GE925.out | refine yQ ?_ GE927.out) | exact HB.out)⟩
    ·rw [if_neg c43] at H
     have c43b0 : (((rd_T71 l1 a2).f0) == 4) = false := beq_eq_false_iff_ne.mpr c43
     have c43b1 : (((rd_T71 l1 a2).f0) != 4) = true := bne_iff_ne.mpr c43
     by_cases c52 : ((rd_T71 l1 a2).f0) = 5
     ·rw [if_pos c52] at H
      have c52b0 : (((rd_T71 l1 a2).f0) == 5) = true := beq_iff_eq.mpr c52
      have c52b1 : (((rd_T71 l1 a2).f0) != 5) = false := bne_eq_false_iff_eq.mpr c52
      clear c52
      obtain ⟨c53, H⟩ := iP H
      have c53b0 : decide (0 ≤ ((rd_T71 l1 a2).f1)) = true := zH c53
      clear c53
      obtain ⟨c54, H⟩ := iP H
      have c54b0 : decide (((rd_T71 l1 a2).f1) < (l3.length : Int)) = true := zH c54
      clear c54
      obtain ⟨t937, A55, H⟩ := bE H
      obtain rfl := zU H
      go_enter Try.func96, Try.ntmps96
      try go_wp2_with (first | ((with_reducible refine gate_dst (N := 5) rfl ?_); refine box_event ?hg (N := 5) ?hd (cs := #[.int .i64 a0_0, .slice A0_1 l0_1.length c0_1, .slice A0_2 l0_2.length c0_2]) (t := 32) ?hr ?_; (case hd => rfl); (case hg => rfl); (case hr => first | (go_simp; done) | (go_simp; rfl)); intro gb925 hg w56 hbox hb; have BK925 := yA (hbox); have GW925 := yA ((by rw [hg]; exact (yX (mB HB.out)) : w.heap.size ≤ gb925)); have GE925 := yA ((by rw [hg]; exact (yX (mB HB.out)) : w.heap.size ≤ gb925)); replace HB := yA (zD (mB HB.out) hb); clear hb hbox hg; have p926 : 0 ≤ (a2 : Int) := zG (by assumption); have q926 : a2 < (l1.length : Int) := zG (by assumption); obtain ⟨ad926, e926, hx926_0, hx926_1, hx926_2, hx926_3⟩ := at_T71 HR1.out a2 p926 q926; cases e926; replace hx926_0 := (HB.out.cell (zE w _ hx926_0)).trans hx926_0; replace hx926_1 := (HB.out.cell (zE w _ hx926_1)).trans hx926_1; replace hx926_2 := (HB.out.cell (zE w _ hx926_2)).trans hx926_2; replace hx926_3 := (HB.out.cell (zE w _ hx926_3)).trans hx926_3; replace p926 := eq_true p926; replace q926 := eq_true q926) | ((with_reducible refine gate_dst (N := 11) rfl ?_); refine box_event ?hg (N := 11) ?hd (cs := #[.int .i64 0, .int .i64 0, .int .i64 0, .int .i64 0]) (t := 71) ?hr ?_; (case hd => rfl); (case hg => rfl); (case hr => first | (go_simp; done) | (go_simp; rfl)); intro gb927 hg w57 hbox hb; have BK927 := yA (hbox); have GW927 := yA ((by rw [hg]; exact (yX (by with_reducible repeat first | exact HB.out | apply yO | apply yN | apply yP | refine yQ ?_ GE925.out)) : w.heap.size ≤ gb927)); have GE927 := yA ((by rw [hg]; exact (yX (by with_reducible repeat first | exact HB.out | apply yO | apply yN | apply yP | refine yQ ?_ GE925.out)) : w.heap.size ≤ gb927)); replace HB := yA (zD (by with_reducible repeat first | exact HB.out | apply yO | apply yN | apply yP | refine yQ ?_ GE925.out) hb); have NB925_927 := yA ((by rw [hg]; exact Nat.ne_of_lt (zX (mK BK925.out)) : gb925 ≠ gb927)); have NB927_925 := yA ((by rw [hg]; exact Nat.ne_of_gt (zX (mK BK925.out)) : gb927 ≠ gb925)); replace BK925 := yA (yU (mK BK925.out) hb); clear hb hbox hg; have hnb58 := NB927_925.out; have hnc58 := NB925_927.out; have hcz59_0 : w57.cell? ⟨gb927, 0, none⟩ = some (.int .i64 0) := (yV BK927.out 0).trans rfl; have hcz59_1 : w57.cell? ⟨gb927, 1, none⟩ = some (.int .i64 0) := (yV BK927.out 1).trans rfl; have hcz59_2 : w57.cell? ⟨gb927, 2, none⟩ = some (.int .i64 0) := (yV BK927.out 2).trans rfl; have hcz59_3 : w57.cell? ⟨gb927, 3, none⟩ = some (.int .i64 0) := (yV BK927.out 3).trans rfl; have hfz59_0 := yW BK927.out 0; have hfz59_1 := yW BK927.out 1; have hfz59_2 := yW BK927.out 2; have hfz59_3 := yW BK927.out 3))
      have n0_ : Aside0 (((((w57.setCell ⟨gb927, 0, none⟩ (.int .i64 ((rd_T71 l1 a2).f0))).setCell ⟨gb927, 1, none⟩ (.int .i64 ((rd_T71 l1 a2).f1))).setCell ⟨gb927, 2, none⟩ (.int .i64 ((rd_T71 l1 a2).f2))).setCell ⟨gb927, 3, none⟩ (.int .i64 ((rd_T71 l1 a2).f3))).heap[gb925]? = some (.cells #[.int .i64 a0_0, .slice A0_1 l0_1.length c0_1, .slice A0_2 l0_2.length c0_2] 32 (0, 0))) := ⟨by (with_reducible repeat (first | refine yS ?_ _ | refine yT ?_ | refine yR ?_ _)); refine blk_far ?_ NB925_927.out _; (with_reducible repeat (first | refine yS ?_ _ | refine yT ?_ | refine yR ?_ _)); refine blk_far ?_ NB925_927.out _; (with_reducible repeat (first | refine yS ?_ _ | refine yT ?_ | refine yR ?_ _)); refine blk_far ?_ NB925_927.out _; (with_reducible repeat (first | refine yS ?_ _ | refine yT ?_ | refine yR ?_ _)); refine blk_far ?_ NB925_927.out _; (with_reducible repeat (first | refine yS ?_ _ | refine yT ?_ | refine yR ?_ _)); exact BK925.out⟩
      have n1_ : Aside0 (((((w57.setCell ⟨gb927, 0, none⟩ (.int .i64 ((rd_T71 l1 a2).f0))).setCell ⟨gb927, 1, none⟩ (.int .i64 ((rd_T71 l1 a2).f1))).setCell ⟨gb927, 2, none⟩ (.int .i64 ((rd_T71 l1 a2).f2))).setCell ⟨gb927, 3, none⟩ (.int .i64 ((rd_T71 l1 a2).f3))).heap[gb927]? = some (.cells #[.int .i64 ((rd_T71 l1 a2).f0), .int .i64 ((rd_T71 l1 a2).f1), .int .i64 ((rd_T71 l1 a2).f2), .int .i64 ((rd_T71 l1 a2).f3)] 71 (0, 0))) := ⟨by (with_reducible repeat (first | refine yS ?_ _ | refine yT ?_ | refine yR ?_ _)); refine blk_put (cs := #[.int .i64 ((rd_T71 l1 a2).f0), .int .i64 ((rd_T71 l1 a2).f1), .int .i64 ((rd_T71 l1 a2).f2), .int .i64 0]) ?_ 3 _ rfl; (with_reducible repeat (first | refine yS ?_ _ | refine yT ?_ | refine yR ?_ _)); refine blk_put (cs := #[.int .i64 ((rd_T71 l1 a2).f0), .int .i64 ((rd_T71 l1 a2).f1), .int .i64 0, .int .i64 0]) ?_ 2 _ rfl; (with_reducible repeat (first | refine yS ?_ _ | refine yT ?_ | refine yR ?_ _)); refine blk_put (cs := #[.int .i64 ((rd_T71 l1 a2).f0), .int .i64 0, .int .i64 0, .int .i64 0]) ?_ 1 _ rfl; (with_reducible repeat (first | refine yS ?_ _ | refine yT ?_ | refine yR ?_ _)); refine blk_put (cs := #[.int .i64 0, .int .i64 0, .int .i64 0, .int .i64 0]) ?_ 0 _ rfl; (with_reducible repeat (first | refine yS ?_ _ | refine yT ?_ | refine yR ?_ _)); exact BK927.out⟩
      have n2_ : Aside0 (Below w.heap.size w ((((w57.setCell ⟨gb927, 0, none⟩ (.int .i64 ((rd_T71 l1 a2).f0))).setCell ⟨gb927, 1, none⟩ (.int .i64 ((rd_T71 l1 a2).f1))).setCell ⟨gb927, 2, none⟩ (.int .i64 ((rd_T71 l1 a2).f2))).setCell ⟨gb927, 3, none⟩ (.int .i64 ((rd_T71 l1 a2).f3)))) := ⟨by repeat (first | (with_reducible first | exact HB.out | apply yO | apply yN | apply yP | refine yQ ?_ GE925.out | refine yQ ?_ GE927.out) | exact HB.out)⟩
      (try clear BK925)
      (try clear BK927)
      (try clear HB)
      generalize ((((w57.setCell ⟨gb927, 0, none⟩ (.int .i64 ((rd_T71 l1 a2).f0))).setCell ⟨gb927, 1, none⟩ (.int .i64 ((rd_T71 l1 a2).f1))).setCell ⟨gb927, 2, none⟩ (.int .i64 ((rd_T71 l1 a2).f2))).setCell ⟨gb927, 3, none⟩ (.int .i64 ((rd_T71 l1 a2).f3))) = w60 at n0_ n1_ n2_ ⊢
      have BK925 := n0_
      have BK927 := n1_
      have HB := n2_
      clear n0_ n1_ n2_
      replace BK925 := yA (yT BK925.out)
      replace BK927 := yA (yT BK927.out)
      replace HB := yA (yP HB.out)
      have p936 : 0 ≤ (((rd_T71 l1 a2).f1) : Int) := zG (by assumption)
      have q936 : ((rd_T71 l1 a2).f1) < (l3.length : Int) := zG (by assumption)
      obtain ⟨ad936, e936, hx936_0⟩ := Kd.at_int HR3.out ((rd_T71 l1 a2).f1) p936 q936
      have hw936_0 := hx936_0
      cases e936
      try replace hx936_0 := (HB.out.cell (zE w _ hx936_0)).trans hx936_0
      replace p936 := eq_true p936
      replace q936 := eq_true q936
      refine start_ (n := 11) (S := fun w' => w'.cell? ⟨gb925, 0, none⟩ = some (.int .i64 a0_0) ∧ w'.cell? ⟨gb925, 1, none⟩ = some (.slice A0_1 l0_1.length c0_1) ∧ w'.cell? ⟨gb925, 2, none⟩ = some (.slice A0_2 l0_2.length c0_2) ∧ w'.cell? ⟨gb927, 0, none⟩ = some (.int .i64 ((rd_T71 l1 a2).f0)) ∧ w'.cell? ⟨gb927, 1, none⟩ = some (.int .i64 ((rd_T71 l1 a2).f1)) ∧ w'.cell? ⟨gb927, 2, none⟩ = some (.int .i64 ((rd_T71 l1 a2).f2)) ∧ w'.cell? ⟨gb927, 3, none⟩ = some (.int .i64 ((rd_T71 l1 a2).f3)) ∧ w'.cell? (ad936.add (((rd_T71 l1 a2).f1)).toNat) = some (.int .i64 (rd l3 ((rd_T71 l1 a2).f1)))) (ds := []) #[false, false, false, false, false, false, false, false, false, false, false] (by kernel_rfl) rfl rfl ⟨(yV BK925.out 0).trans rfl, (yV BK925.out 1).trans rfl, (yV BK925.out 2).trans rfl, (yV BK927.out 0).trans rfl, (yV BK927.out 1).trans rfl, (yV BK927.out 2).trans rfl, (yV BK927.out 3).trans rfl, ((HB.out.cell (zE w _ hw936_0)).trans hw936_0)⟩ (fun hHeld => ?_); refine with_tabW spec_l19Node.tab12 spec_l19Node.bits12 (fun HT_ HW_ => ?_)
      generalize w60.drew = w61 at BK925 BK927 HB hx936_0 hHeld ⊢
      refine pure_ (i := 1) (N := some 79) (v := ?_) (a' := ?_) #[false, true, false, false, false, false, false, false, false, false, false] rfl rfl (any_of HT_.out (by kernel_rfl)) (fun _ _ _ h => h) (Or.inl ⟨by rfl, ?_⟩) ?_ ?_
      rotate_left
      ·intro w'
       go_simp
       with_reducible rfl
      rotate_left
      ·simp only [Act.put, zA, zB, zC, i64_w, i32_w]
       rfl
      refine pure_ (i := 2) (N := some 80) (v := ?_) (a' := ?_) #[false, true, true, false, false, false, false, false, false, false, false] rfl rfl (any_of HT_.out (by kernel_rfl)) (fun _ _ _ h => h) (Or.inl ⟨by rfl, ?_⟩) ?_ ?_
      rotate_left
      ·intro w'
       go_simp
       with_reducible rfl
      rotate_left
      ·simp only [Act.put, zA, zB, zC, i64_w, i32_w]
       rfl
      refine pure_ (i := 7) (N := some 85) (v := ?_) (a' := ?_) #[false, true, true, false, false, false, false, true, false, false, false] rfl rfl (any_of HT_.out (by kernel_rfl)) (fun _ _ _ h => h) (Or.inl ⟨by rfl, ?_⟩) ?_ ?_
      rotate_left
      ·intro w'
       go_simp
       with_reducible rfl
      rotate_left
      ·simp only [Act.put, zA, zB, zC, i64_w, i32_w]
       rfl
      refine take_ (i := 0) (N := some 78) (v := ?_) (a' := ?_) #[true, true, true, false, false, false, false, true, false, false, false] rfl rfl (take_ofW HT_.out HW_.out (by kernel_rfl)) (fun _ _ _ h => h) (Or.inl ⟨by rfl, ?_⟩) hHeld ?_ ?_
      rotate_left
      ·rintro w' ⟨s0, s1, s2, s3, s4, s5, s6, s7⟩
       go_simp
       with_reducible rfl
      rotate_left
      ·simp only [Act.put, zA, zB, zC, i64_w, i32_w]
       rfl
      refine take_ (i := 3) (N := some 81) (v := ?_) (a' := ?_) #[true, true, true, true, false, false, false, true, false, false, false] rfl rfl (take_ofW HT_.out HW_.out (by kernel_rfl)) (fun _ _ _ h => h) (Or.inl ⟨by rfl, ?_⟩) hHeld ?_ ?_
      rotate_left
      ·rintro w' ⟨s0, s1, s2, s3, s4, s5, s6, s7⟩
       go_simp
       with_reducible rfl
      rotate_left
      ·simp only [Act.put, zA, zB, zC, i64_w, i32_w]
       rfl
      refine pure_ (i := 4) (N := some 82) (v := ?_) (a' := ?_) #[true, true, true, true, true, false, false, true, false, false, false] rfl rfl (any_of HT_.out (by kernel_rfl)) (fun _ _ _ h => h) (Or.inl ⟨by rfl, ?_⟩) ?_ ?_
      rotate_left
      ·intro w'
       go_simp
       with_reducible rfl
      rotate_left
      ·simp only [Act.put, zA, zB, zC, i64_w, i32_w]
       rfl
      refine take_ (i := 5) (N := some 83) (v := ?_) (a' := ?_) #[true, true, true, true, true, true, false, true, false, false, false] rfl rfl (take_ofW HT_.out HW_.out (by kernel_rfl)) (fun _ _ _ h => h) (Or.inl ⟨by rfl, ?_⟩) hHeld ?_ ?_
      rotate_left
      ·rintro w' ⟨s0, s1, s2, s3, s4, s5, s6, s7⟩
       go_simp
       with_reducible rfl
      rotate_left
      ·simp only [Act.put, zA, zB, zC, i64_w, i32_w]
       rfl
      refine take_ (i := 8) (N := some 86) (v := ?_) (a' := ?_) #[true, true, true, true, true, true, false, true, true, false, false] rfl rfl (take_ofW HT_.out HW_.out (by kernel_rfl)) (fun _ _ _ h => h) (Or.inl ⟨by rfl, ?_⟩) hHeld ?_ ?_
      rotate_left
      ·rintro w' ⟨s0, s1, s2, s3, s4, s5, s6, s7⟩
       go_simp
       with_reducible rfl
      rotate_left
      ·simp only [Act.put, zA, zB, zC, i64_w, i32_w]
       rfl
      refine one_ (i := 6) (N := some 84) #[true, true, true, true, true, true, true, true, true, false, false] rfl rfl (one_of HT_.out (by kernel_rfl)) (by decide) (fun K hK => ?_)
      refine goes_ Try.func119 (by kernel_rfl) rfl #[.agg #[.int .i64 a0_0, .slice A0_1 l0_1.length c0_1, .slice A0_2 l0_2.length c0_2], .int .i64 (rd l3 ((rd_T71 l1 a2).f1))] (by rfl) rfl rfl (by (try simp only [zI, zJ, zK]); first | done | rfl | (simp only [zL, zM]; rfl)) ?_
      with_reducible refine (spec_TermAt.calls k a0_0 _ _ l0_1 _ _ l0_2 (rd l3 ((rd_T71 l1 a2).f1)) t937 _ ?side1 ?side2 ?side3 ?side4 A55.out).mono ?_
      (case side1 => exact mC (yM HR0_1.out HB.out))
      (case side2 => exact HC0_1.out)
      (case side3 => exact mC (yM HR0_2.out HB.out))
      (case side4 => exact HC0_2.out)
      rintro e w62 ⟨rfl, hb⟩
      refine ⟨_, rfl, ?_⟩
      replace BK925 := yA (yU (mK BK925.out) hb)
      replace BK927 := yA (yU (mK BK927.out) hb)
      replace HB := yA (zD (by with_reducible repeat first | exact HB.out | apply yO | apply yN | apply yP | refine yQ ?_ GE925.out | refine yQ ?_ GE927.out) hb)
      (try clear hb)
      (try clear hb2)
      (try clear hk)
      (try clear hi)
      refine hK.out _ _ ⟨(yV BK925.out 0).trans rfl, (yV BK925.out 1).trans rfl, (yV BK925.out 2).trans rfl, (yV BK927.out 0).trans rfl, (yV BK927.out 1).trans rfl, (yV BK927.out 2).trans rfl, (yV BK927.out 3).trans rfl, ((HB.out.cell (zE w _ hw936_0)).trans hw936_0)⟩ (fun hHeld => ?_)
      clear hK K
      refine norm_ (a' := ?_) ?_ ?_
      rotate_left
      ·show Act.put _ (some 84) _ = _
       simp only [Act.put, zA, zB, zC, i64_w, i32_w]
       rfl
      refine pure_ (i := 9) (N := some 87) (v := ?_) (a' := ?_) #[true, true, true, true, true, true, true, true, true, true, false] rfl rfl (any_of HT_.out (by kernel_rfl)) (fun _ _ _ h => h) (Or.inl ⟨by rfl, ?_⟩) ?_ ?_
      rotate_left
      ·intro w'
       go_simp
       with_reducible rfl
      rotate_left
      ·simp only [Act.put, zA, zB, zC, i64_w, i32_w]
       rfl
      refine pure_ (i := 10) (N := some 10) (v := ?_) (a' := ?_) #[true, true, true, true, true, true, true, true, true, true, true] rfl rfl (any_of HT_.out (by kernel_rfl)) (fun _ _ _ h => h) (Or.inl ⟨by rfl, ?_⟩) ?_ ?_
      rotate_left
      ·intro w'
       go_simp
       with_reducible rfl
      rotate_left
      ·simp only [Act.put, zA, zB, zC, i64_w, i32_w]
       rfl
      refine done_ (done_of HT_.out (by kernel_rfl)) ?_
      try go_wp2
      go_ret
      exact ⟨by first | rfl | (simp [errW_none, errW_some] <;> rfl) | (simp [*, errW_none, errW_some] <;> rfl), by repeat (first | (with_reducible first | exact HB.out | apply yO | apply yN | apply yP | refine yQ ?_ GE925.out | refine yQ ?_ GE927.out) | exact HB.out)⟩
     ·rw [if_neg c52] at H
      have c52b0 : (((rd_T71 l1 a2).f0) == 5) = false := beq_eq_false_iff_ne.mpr c52
      have c52b1 : (((rd_T71 l1 a2).f0) != 5) = true := bne_iff_ne.mpr c52
      by_cases c63 : ((rd_T71 l1 a2).f0) = 6
      ·rw [if_pos c63] at H
       have c63b0 : (((rd_T71 l1 a2).f0) == 6) = true := beq_iff_eq.mpr c63
       have c63b1 : (((rd_T71 l1 a2).f0) != 6) = false := bne_eq_false_iff_eq.mpr c63
       clear c63
       obtain ⟨t938, A64, H⟩ := bE H
       obtain rfl := zU H
       go_enter Try.func96, Try.ntmps96
       go_wp2_with (first | ((with_reducible refine gate_dst (N := 5) rfl ?_); refine box_event ?hg (N := 5) ?hd (cs := #[.int .i64 a0_0, .slice A0_1 l0_1.length c0_1, .slice A0_2 l0_2.length c0_2]) (t := 32) ?hr ?_; (case hd => rfl); (case hg => rfl); (case hr => first | (go_simp; done) | (go_simp; rfl)); intro gb925 hg w65 hbox hb; have BK925 := yA (hbox); have GW925 := yA ((by rw [hg]; exact (yX (mB HB.out)) : w.heap.size ≤ gb925)); have GE925 := yA ((by rw [hg]; exact (yX (mB HB.out)) : w.heap.size ≤ gb925)); replace HB := yA (zD (mB HB.out) hb); clear hb hbox hg; have p926 : 0 ≤ (a2 : Int) := zG (by assumption); have q926 : a2 < (l1.length : Int) := zG (by assumption); obtain ⟨ad926, e926, hx926_0, hx926_1, hx926_2, hx926_3⟩ := at_T71 HR1.out a2 p926 q926; cases e926; replace hx926_0 := (HB.out.cell (zE w _ hx926_0)).trans hx926_0; replace hx926_1 := (HB.out.cell (zE w _ hx926_1)).trans hx926_1; replace hx926_2 := (HB.out.cell (zE w _ hx926_2)).trans hx926_2; replace hx926_3 := (HB.out.cell (zE w _ hx926_3)).trans hx926_3; replace p926 := eq_true p926; replace q926 := eq_true q926) | ((with_reducible refine gate_dst (N := 11) rfl ?_); refine box_event ?hg (N := 11) ?hd (cs := #[.int .i64 0, .int .i64 0, .int .i64 0, .int .i64 0]) (t := 71) ?hr ?_; (case hd => rfl); (case hg => rfl); (case hr => first | (go_simp; done) | (go_simp; rfl)); intro gb927 hg w66 hbox hb; have BK927 := yA (hbox); have GW927 := yA ((by rw [hg]; exact (yX (by with_reducible repeat first | exact HB.out | apply yO | apply yN | apply yP | refine yQ ?_ GE925.out)) : w.heap.size ≤ gb927)); have GE927 := yA ((by rw [hg]; exact (yX (by with_reducible repeat first | exact HB.out | apply yO | apply yN | apply yP | refine yQ ?_ GE925.out)) : w.heap.size ≤ gb927)); replace HB := yA (zD (by with_reducible repeat first | exact HB.out | apply yO | apply yN | apply yP | refine yQ ?_ GE925.out) hb); have NB925_927 := yA ((by rw [hg]; exact Nat.ne_of_lt (zX (mK BK925.out)) : gb925 ≠ gb927)); have NB927_925 := yA ((by rw [hg]; exact Nat.ne_of_gt (zX (mK BK925.out)) : gb927 ≠ gb925)); replace BK925 := yA (yU (mK BK925.out) hb); clear hb hbox hg; have hnb67 := NB927_925.out; have hnc67 := NB925_927.out; have hcz68_0 : w66.cell? ⟨gb927, 0, none⟩ = some (.int .i64 0) := (yV BK927.out 0).trans rfl; have hcz68_1 : w66.cell? ⟨gb927, 1, none⟩ = some (.int .i64 0) := (yV BK927.out 1).trans rfl; have hcz68_2 : w66.cell? ⟨gb927, 2, none⟩ = some (.int .i64 0) := (yV BK927.out 2).trans rfl; have hcz68_3 : w66.cell? ⟨gb927, 3, none⟩ = some (.int .i64 0) := (yV BK927.out 3).trans rfl; have hfz68_0 := yW BK927.out 0; have hfz68_1 := yW BK927.out 1; have hfz68_2 := yW BK927.out 2; have hfz68_3 := yW BK927.out 3; have hcz69_0 : w66.cell? ⟨gb925, 0, none⟩ = some (.int .i64 a0_0) := (yV BK925.out 0).trans rfl; have hcz69_1 : w66.cell? ⟨gb925, 1, none⟩ = some (.slice A0_1 l0_1.length c0_1) := (yV BK925.out 1).trans rfl; have hcz69_2 : w66.cell? ⟨gb925, 2, none⟩ = some (.slice A0_2 l0_2.length c0_2) := (yV BK925.out 2).trans rfl; have hfz69_0 := yW BK925.out 0; have hfz69_1 := yW BK925.out 1; have hfz69_2 := yW BK925.out 2) | ((with_reducible refine zS (f := 96) rfl ?_); refine goesL_ (some 96) rfl rfl Try.func96 (by kernel_rfl) rfl #[.agg #[.int .i64 a0_0, .slice A0_1 l0_1.length c0_1, .slice A0_2 l0_2.length c0_2], .slice (some ad926) l1.length c1, .int .i64 ((rd_T71 l1 a2).f1), .slice A3 l3.length c3, .int .i64 a4] rfl (by (try simp only [zI, zJ, zK]); first | done | rfl | (simp only [zL, zM]; rfl)) ?_; (with_reducible refine (ih k (by omega) a0_0 _ _ l0_1 _ _ l0_2 _ _ l1 ((rd_T71 l1 a2).f1) _ _ l3 a4 t938 _ ?side1 ?side2 ?side3 ?side4 ?side5 ?side6 ?side7 ?side8 A64.out).mono ?_); (case side1 => exact yM HR0_1.out (by with_reducible repeat first | exact HB.out | apply yO | apply yN | apply yP | refine yQ ?_ GE925.out | refine yQ ?_ GE927.out)); (case side2 => exact HC0_1.out); (case side3 => exact yM HR0_2.out (by with_reducible repeat first | exact HB.out | apply yO | apply yN | apply yP | refine yQ ?_ GE925.out | refine yQ ?_ GE927.out)); (case side4 => exact HC0_2.out); (case side5 => exact yM HR1.out (by with_reducible repeat first | exact HB.out | apply yO | apply yN | apply yP | refine yQ ?_ GE925.out | refine yQ ?_ GE927.out)); (case side6 => exact HC1.out); (case side7 => exact yM HR3.out (by with_reducible repeat first | exact HB.out | apply yO | apply yN | apply yP | refine yQ ?_ GE925.out | refine yQ ?_ GE927.out)); (case side8 => exact HC3.out); rintro e w70 ⟨rfl, hb⟩; refine ⟨_, rfl, ?_⟩; replace BK925 := yA (yU (g := gb925) (o := .cells #[.int .i64 a0_0, .slice A0_1 l0_1.length c0_1, .slice A0_2 l0_2.length c0_2] 32 (0, 0)) (by (with_reducible repeat (first | refine yS ?_ _ | refine yT ?_ | refine yR ?_ _)); refine blk_far ?_ NB925_927.out _; (with_reducible repeat (first | refine yS ?_ _ | refine yT ?_ | refine yR ?_ _)); refine blk_far ?_ NB925_927.out _; (with_reducible repeat (first | refine yS ?_ _ | refine yT ?_ | refine yR ?_ _)); refine blk_far ?_ NB925_927.out _; (with_reducible repeat (first | refine yS ?_ _ | refine yT ?_ | refine yR ?_ _)); refine blk_far ?_ NB925_927.out _; (with_reducible repeat (first | refine yS ?_ _ | refine yT ?_ | refine yR ?_ _)); exact BK925.out) hb); replace BK927 := yA (yU (g := gb927) (o := .cells #[.int .i64 ((rd_T71 l1 a2).f0), .int .i64 ((rd_T71 l1 a2).f1), .int .i64 ((rd_T71 l1 a2).f2), .int .i64 ((rd_T71 l1 a2).f3)] 71 (0, 0)) (by (with_reducible repeat (first | refine yS ?_ _ | refine yT ?_ | refine yR ?_ _)); refine blk_put (cs := #[.int .i64 ((rd_T71 l1 a2).f0), .int .i64 ((rd_T71 l1 a2).f1), .int .i64 ((rd_T71 l1 a2).f2), .int .i64 0]) ?_ 3 _ rfl; (with_reducible repeat (first | refine yS ?_ _ | refine yT ?_ | refine yR ?_ _)); refine blk_put (cs := #[.int .i64 ((rd_T71 l1 a2).f0), .int .i64 ((rd_T71 l1 a2).f1), .int .i64 0, .int .i64 0]) ?_ 2 _ rfl; (with_reducible repeat (first | refine yS ?_ _ | refine yT ?_ | refine yR ?_ _)); refine blk_put (cs := #[.int .i64 ((rd_T71 l1 a2).f0), .int .i64 0, .int .i64 0, .int .i64 0]) ?_ 1 _ rfl; (with_reducible repeat (first | refine yS ?_ _ | refine yT ?_ | refine yR ?_ _)); refine blk_put (cs := #[.int .i64 0, .int .i64 0, .int .i64 0, .int .i64 0]) ?_ 0 _ rfl; (with_reducible repeat (first | refine yS ?_ _ | refine yT ?_ | refine yR ?_ _)); exact BK927.out) hb); replace HB := yA (zD (by with_reducible repeat first | exact HB.out | apply yO | apply yN | apply yP | refine yQ ?_ GE925.out | refine yQ ?_ GE927.out) hb); (try clear hb); (try clear hb2); (try clear hk); (try clear hi)))
       go_ret
       exact ⟨by first | rfl | (simp [errW_none, errW_some] <;> rfl) | (simp [*, errW_none, errW_some] <;> rfl), by repeat (first | (with_reducible first | exact HB.out | apply yO | apply yN | apply yP | refine yQ ?_ GE925.out | refine yQ ?_ GE927.out) | exact HB.out)⟩
      ·rw [if_neg c63] at H
       have c63b0 : (((rd_T71 l1 a2).f0) == 6) = false := beq_eq_false_iff_ne.mpr c63
       have c63b1 : (((rd_T71 l1 a2).f0) != 6) = true := bne_iff_ne.mpr c63
       by_cases c71 : ((rd_T71 l1 a2).f0) = 7
       ·rw [if_pos c71] at H
        have c71b0 : (((rd_T71 l1 a2).f0) == 7) = true := beq_iff_eq.mpr c71
        have c71b1 : (((rd_T71 l1 a2).f0) != 7) = false := bne_eq_false_iff_eq.mpr c71
        clear c71
        obtain ⟨t939, A72, H⟩ := bE H
        by_cases c73 : t939 = true
        ·subst c73
         replace H := iT H
         obtain ⟨t940, A74, H⟩ := bE H
         obtain rfl := zU H
         go_enter Try.func96, Try.ntmps96
         go_wp2_with (first | ((with_reducible refine gate_dst (N := 5) rfl ?_); refine box_event ?hg (N := 5) ?hd (cs := #[.int .i64 a0_0, .slice A0_1 l0_1.length c0_1, .slice A0_2 l0_2.length c0_2]) (t := 32) ?hr ?_; (case hd => rfl); (case hg => rfl); (case hr => first | (go_simp; done) | (go_simp; rfl)); intro gb925 hg w75 hbox hb; have BK925 := yA (hbox); have GW925 := yA ((by rw [hg]; exact (yX (mB HB.out)) : w.heap.size ≤ gb925)); have GE925 := yA ((by rw [hg]; exact (yX (mB HB.out)) : w.heap.size ≤ gb925)); replace HB := yA (zD (mB HB.out) hb); clear hb hbox hg; have p926 : 0 ≤ (a2 : Int) := zG (by assumption); have q926 : a2 < (l1.length : Int) := zG (by assumption); obtain ⟨ad926, e926, hx926_0, hx926_1, hx926_2, hx926_3⟩ := at_T71 HR1.out a2 p926 q926; cases e926; replace hx926_0 := (HB.out.cell (zE w _ hx926_0)).trans hx926_0; replace hx926_1 := (HB.out.cell (zE w _ hx926_1)).trans hx926_1; replace hx926_2 := (HB.out.cell (zE w _ hx926_2)).trans hx926_2; replace hx926_3 := (HB.out.cell (zE w _ hx926_3)).trans hx926_3; replace p926 := eq_true p926; replace q926 := eq_true q926) | ((with_reducible refine gate_dst (N := 11) rfl ?_); refine box_event ?hg (N := 11) ?hd (cs := #[.int .i64 0, .int .i64 0, .int .i64 0, .int .i64 0]) (t := 71) ?hr ?_; (case hd => rfl); (case hg => rfl); (case hr => first | (go_simp; done) | (go_simp; rfl)); intro gb927 hg w76 hbox hb; have BK927 := yA (hbox); have GW927 := yA ((by rw [hg]; exact (yX (by with_reducible repeat first | exact HB.out | apply yO | apply yN | apply yP | refine yQ ?_ GE925.out)) : w.heap.size ≤ gb927)); have GE927 := yA ((by rw [hg]; exact (yX (by with_reducible repeat first | exact HB.out | apply yO | apply yN | apply yP | refine yQ ?_ GE925.out)) : w.heap.size ≤ gb927)); replace HB := yA (zD (by with_reducible repeat first | exact HB.out | apply yO | apply yN | apply yP | refine yQ ?_ GE925.out) hb); have NB925_927 := yA ((by rw [hg]; exact Nat.ne_of_lt (zX (mK BK925.out)) : gb925 ≠ gb927)); have NB927_925 := yA ((by rw [hg]; exact Nat.ne_of_gt (zX (mK BK925.out)) : gb927 ≠ gb925)); replace BK925 := yA (yU (mK BK925.out) hb); clear hb hbox hg; have hnb77 := NB927_925.out; have hnc77 := NB925_927.out; have hcz78_0 : w76.cell? ⟨gb927, 0, none⟩ = some (.int .i64 0) := (yV BK927.out 0).trans rfl; have hcz78_1 : w76.cell? ⟨gb927, 1, none⟩ = some (.int .i64 0) := (yV BK927.out 1).trans rfl; have hcz78_2 : w76.cell? ⟨gb927, 2, none⟩ = some (.int .i64 0) := (yV BK927.out 2).trans rfl; have hcz78_3 : w76.cell? ⟨gb927, 3, none⟩ = some (.int .i64 0) := (yV BK927.out 3).trans rfl; have hfz78_0 := yW BK927.out 0; have hfz78_1 := yW BK927.out 1; have hfz78_2 := yW BK927.out 2; have hfz78_3 := yW BK927.out 3; have hcz79_0 : w76.cell? ⟨gb925, 0, none⟩ = some (.int .i64 a0_0) := (yV BK925.out 0).trans rfl; have hcz79_1 : w76.cell? ⟨gb925, 1, none⟩ = some (.slice A0_1 l0_1.length c0_1) := (yV BK925.out 1).trans rfl; have hcz79_2 : w76.cell? ⟨gb925, 2, none⟩ = some (.slice A0_2 l0_2.length c0_2) := (yV BK925.out 2).trans rfl; have hfz79_0 := yW BK925.out 0; have hfz79_1 := yW BK925.out 1; have hfz79_2 := yW BK925.out 2) | ((with_reducible refine zS (f := 96) rfl ?_); refine goesL_ (some 106) rfl rfl Try.func96 (by kernel_rfl) rfl #[.agg #[.int .i64 a0_0, .slice A0_1 l0_1.length c0_1, .slice A0_2 l0_2.length c0_2], .slice (some ad926) l1.length c1, .int .i64 ((rd_T71 l1 a2).f1), .slice A3 l3.length c3, .int .i64 a4] rfl (by (try simp only [zI, zJ, zK]); first | done | rfl | (simp only [zL, zM]; rfl)) ?_; (with_reducible refine (ih k (by omega) a0_0 _ _ l0_1 _ _ l0_2 _ _ l1 ((rd_T71 l1 a2).f1) _ _ l3 a4 true _ ?side1 ?side2 ?side3 ?side4 ?side5 ?side6 ?side7 ?side8 A72.out).mono ?_); (case side1 => exact yM HR0_1.out (by with_reducible repeat first | exact HB.out | apply yO | apply yN | apply yP | refine yQ ?_ GE925.out | refine yQ ?_ GE927.out)); (case side2 => exact HC0_1.out); (case side3 => exact yM HR0_2.out (by with_reducible repeat first | exact HB.out | apply yO | apply yN | apply yP | refine yQ ?_ GE925.out | refine yQ ?_ GE927.out)); (case side4 => exact HC0_2.out); (case side5 => exact yM HR1.out (by with_reducible repeat first | exact HB.out | apply yO | apply yN | apply yP | refine yQ ?_ GE925.out | refine yQ ?_ GE927.out)); (case side6 => exact HC1.out); (case side7 => exact yM HR3.out (by with_reducible repeat first | exact HB.out | apply yO | apply yN | apply yP | refine yQ ?_ GE925.out | refine yQ ?_ GE927.out)); (case side8 => exact HC3.out); rintro e w80 ⟨rfl, hb⟩; refine ⟨_, rfl, ?_⟩; replace BK925 := yA (yU (g := gb925) (o := .cells #[.int .i64 a0_0, .slice A0_1 l0_1.length c0_1, .slice A0_2 l0_2.length c0_2] 32 (0, 0)) (by (with_reducible repeat (first | refine yS ?_ _ | refine yT ?_ | refine yR ?_ _)); refine blk_far ?_ NB925_927.out _; (with_reducible repeat (first | refine yS ?_ _ | refine yT ?_ | refine yR ?_ _)); refine blk_far ?_ NB925_927.out _; (with_reducible repeat (first | refine yS ?_ _ | refine yT ?_ | refine yR ?_ _)); refine blk_far ?_ NB925_927.out _; (with_reducible repeat (first | refine yS ?_ _ | refine yT ?_ | refine yR ?_ _)); refine blk_far ?_ NB925_927.out _; (with_reducible repeat (first | refine yS ?_ _ | refine yT ?_ | refine yR ?_ _)); exact BK925.out) hb); replace BK927 := yA (yU (g := gb927) (o := .cells #[.int .i64 ((rd_T71 l1 a2).f0), .int .i64 ((rd_T71 l1 a2).f1), .int .i64 ((rd_T71 l1 a2).f2), .int .i64 ((rd_T71 l1 a2).f3)] 71 (0, 0)) (by (with_reducible repeat (first | refine yS ?_ _ | refine yT ?_ | refine yR ?_ _)); refine blk_put (cs := #[.int .i64 ((rd_T71 l1 a2).f0), .int .i64 ((rd_T71 l1 a2).f1), .int .i64 ((rd_T71 l1 a2).f2), .int .i64 0]) ?_ 3 _ rfl; (with_reducible repeat (first | refine yS ?_ _ | refine yT ?_ | refine yR ?_ _)); refine blk_put (cs := #[.int .i64 ((rd_T71 l1 a2).f0), .int .i64 ((rd_T71 l1 a2).f1), .int .i64 0, .int .i64 0]) ?_ 2 _ rfl; (with_reducible repeat (first | refine yS ?_ _ | refine yT ?_ | refine yR ?_ _)); refine blk_put (cs := #[.int .i64 ((rd_T71 l1 a2).f0), .int .i64 0, .int .i64 0, .int .i64 0]) ?_ 1 _ rfl; (with_reducible repeat (first | refine yS ?_ _ | refine yT ?_ | refine yR ?_ _)); refine blk_put (cs := #[.int .i64 0, .int .i64 0, .int .i64 0, .int .i64 0]) ?_ 0 _ rfl; (with_reducible repeat (first | refine yS ?_ _ | refine yT ?_ | refine yR ?_ _)); exact BK927.out) hb); replace HB := yA (zD (by with_reducible repeat first | exact HB.out | apply yO | apply yN | apply yP | refine yQ ?_ GE925.out | refine yQ ?_ GE927.out) hb); (try clear hb); (try clear hb2); (try clear hk); (try clear hi); have hcz81_0 : w80.cell? ⟨gb925, 0, none⟩ = some (.int .i64 a0_0) := (yV BK925.out 0).trans rfl; have hcz81_1 : w80.cell? ⟨gb925, 1, none⟩ = some (.slice A0_1 l0_1.length c0_1) := (yV BK925.out 1).trans rfl; have hcz81_2 : w80.cell? ⟨gb925, 2, none⟩ = some (.slice A0_2 l0_2.length c0_2) := (yV BK925.out 2).trans rfl; have hfz81_0 := yW BK925.out 0; have hfz81_1 := yW BK925.out 1; have hfz81_2 := yW BK925.out 2; have hcz82_0 : w80.cell? ⟨gb927, 0, none⟩ = some (.int .i64 ((rd_T71 l1 a2).f0)) := (yV BK927.out 0).trans rfl; have hcz82_1 : w80.cell? ⟨gb927, 1, none⟩ = some (.int .i64 ((rd_T71 l1 a2).f1)) := (yV BK927.out 1).trans rfl; have hcz82_2 : w80.cell? ⟨gb927, 2, none⟩ = some (.int .i64 ((rd_T71 l1 a2).f2)) := (yV BK927.out 2).trans rfl; have hcz82_3 : w80.cell? ⟨gb927, 3, none⟩ = some (.int .i64 ((rd_T71 l1 a2).f3)) := (yV BK927.out 3).trans rfl; have hfz82_0 := yW BK927.out 0; have hfz82_1 := yW BK927.out 1; have hfz82_2 := yW BK927.out 2; have hfz82_3 := yW BK927.out 3) | (go_at_call 96; (with_reducible refine (ih k (by omega) a0_0 _ _ l0_1 _ _ l0_2 _ _ l1 ((rd_T71 l1 a2).f2) _ _ l3 a4 t940 _ ?side1 ?side2 ?side3 ?side4 ?side5 ?side6 ?side7 ?side8 A74.out).mono ?_); (case side1 => exact mC (yM HR0_1.out HB.out)); (case side2 => exact HC0_1.out); (case side3 => exact mC (yM HR0_2.out HB.out)); (case side4 => exact HC0_2.out); (case side5 => exact mC (yM HR1.out HB.out)); (case side6 => exact HC1.out); (case side7 => exact mC (yM HR3.out HB.out)); (case side8 => exact HC3.out); rintro e w83 ⟨rfl, hb⟩; replace BK925 := yA (yU (mK BK925.out) hb); replace BK927 := yA (yU (mK BK927.out) hb); replace HB := yA (zD (by with_reducible repeat first | exact HB.out | apply yO | apply yN | apply yP | refine yQ ?_ GE925.out | refine yQ ?_ GE927.out) hb); (try clear hb); (try clear hb2); (try clear hk); (try clear hi)))
         go_ret
         exact ⟨by first | rfl | (simp [errW_none, errW_some] <;> rfl) | (simp [*, errW_none, errW_some] <;> rfl), by repeat (first | (with_reducible first | exact HB.out | apply yO | apply yN | apply yP | refine yQ ?_ GE925.out | refine yQ ?_ GE927.out) | exact HB.out)⟩
        ·replace c73 := Bool.eq_false_iff.mpr c73
         subst c73
         replace H := iF H
         obtain rfl := zU H
         go_enter Try.func96, Try.ntmps96
         go_wp2_with (first | ((with_reducible refine gate_dst (N := 5) rfl ?_); refine box_event ?hg (N := 5) ?hd (cs := #[.int .i64 a0_0, .slice A0_1 l0_1.length c0_1, .slice A0_2 l0_2.length c0_2]) (t := 32) ?hr ?_; (case hd => rfl); (case hg => rfl); (case hr => first | (go_simp; done) | (go_simp; rfl)); intro gb925 hg w84 hbox hb; have BK925 := yA (hbox); have GW925 := yA ((by rw [hg]; exact (yX (mB HB.out)) : w.heap.size ≤ gb925)); have GE925 := yA ((by rw [hg]; exact (yX (mB HB.out)) : w.heap.size ≤ gb925)); replace HB := yA (zD (mB HB.out) hb); clear hb hbox hg; have p926 : 0 ≤ (a2 : Int) := zG (by assumption); have q926 : a2 < (l1.length : Int) := zG (by assumption); obtain ⟨ad926, e926, hx926_0, hx926_1, hx926_2, hx926_3⟩ := at_T71 HR1.out a2 p926 q926; cases e926; replace hx926_0 := (HB.out.cell (zE w _ hx926_0)).trans hx926_0; replace hx926_1 := (HB.out.cell (zE w _ hx926_1)).trans hx926_1; replace hx926_2 := (HB.out.cell (zE w _ hx926_2)).trans hx926_2; replace hx926_3 := (HB.out.cell (zE w _ hx926_3)).trans hx926_3; replace p926 := eq_true p926; replace q926 := eq_true q926) | ((with_reducible refine gate_dst (N := 11) rfl ?_); refine box_event ?hg (N := 11) ?hd (cs := #[.int .i64 0, .int .i64 0, .int .i64 0, .int .i64 0]) (t := 71) ?hr ?_; (case hd => rfl); (case hg => rfl); (case hr => first | (go_simp; done) | (go_simp; rfl)); intro gb927 hg w85 hbox hb; have BK927 := yA (hbox); have GW927 := yA ((by rw [hg]; exact (yX (by with_reducible repeat first | exact HB.out | apply yO | apply yN | apply yP | refine yQ ?_ GE925.out)) : w.heap.size ≤ gb927)); have GE927 := yA ((by rw [hg]; exact (yX (by with_reducible repeat first | exact HB.out | apply yO | apply yN | apply yP | refine yQ ?_ GE925.out)) : w.heap.size ≤ gb927)); replace HB := yA (zD (by with_reducible repeat first | exact HB.out | apply yO | apply yN | apply yP | refine yQ ?_ GE925.out) hb); have NB925_927 := yA ((by rw [hg]; exact Nat.ne_of_lt (zX (mK BK925.out)) : gb925 ≠ gb927)); have NB927_925 := yA ((by rw [hg]; exact Nat.ne_of_gt (zX (mK BK925.out)) : gb927 ≠ gb925)); replace BK925 := yA (yU (mK BK925.out) hb); clear hb hbox hg; have hnb86 := NB927_925.out; have hnc86 := NB925_927.out; have hcz87_0 : w85.cell? ⟨gb927, 0, none⟩ = some (.int .i64 0) := (yV BK927.out 0).trans rfl; have hcz87_1 : w85.cell? ⟨gb927, 1, none⟩ = some (.int .i64 0) := (yV BK927.out 1).trans rfl; have hcz87_2 : w85.cell? ⟨gb927, 2, none⟩ = some (.int .i64 0) := (yV BK927.out 2).trans rfl; have hcz87_3 : w85.cell? ⟨gb927, 3, none⟩ = some (.int .i64 0) := (yV BK927.out 3).trans rfl; have hfz87_0 := yW BK927.out 0; have hfz87_1 := yW BK927.out 1; have hfz87_2 := yW BK927.out 2; have hfz87_3 := yW BK927.out 3; have hcz88_0 : w85.cell? ⟨gb925, 0, none⟩ = some (.int .i64 a0_0) := (yV BK925.out 0).trans rfl; have hcz88_1 : w85.cell? ⟨gb925, 1, none⟩ = some (.slice A0_1 l0_1.length c0_1) := (yV BK925.out 1).trans rfl; have hcz88_2 : w85.cell? ⟨gb925, 2, none⟩ = some (.slice A0_2 l0_2.length c0_2) := (yV BK925.out 2).trans rfl; have hfz88_0 := yW BK925.out 0; have hfz88_1 := yW BK925.out 1; have hfz88_2 := yW BK925.out 2) | ((with_reducible refine zS (f := 96) rfl ?_); refine goesL_ (some 106) rfl rfl Try.func96 (by kernel_rfl) rfl #[.agg #[.int .i64 a0_0, .slice A0_1 l0_1.length c0_1, .slice A0_2 l0_2.length c0_2], .slice (some ad926) l1.length c1, .int .i64 ((rd_T71 l1 a2).f1), .slice A3 l3.length c3, .int .i64 a4] rfl (by (try simp only [zI, zJ, zK]); first | done | rfl | (simp only [zL, zM]; rfl)) ?_; (with_reducible refine (ih k (by omega) a0_0 _ _ l0_1 _ _ l0_2 _ _ l1 ((rd_T71 l1 a2).f1) _ _ l3 a4 false _ ?side1 ?side2 ?side3 ?side4 ?side5 ?side6 ?side7 ?side8 A72.out).mono ?_); (case side1 => exact yM HR0_1.out (by with_reducible repeat first | exact HB.out | apply yO | apply yN | apply yP | refine yQ ?_ GE925.out | refine yQ ?_ GE927.out)); (case side2 => exact HC0_1.out); (case side3 => exact yM HR0_2.out (by with_reducible repeat first | exact HB.out | apply yO | apply yN | apply yP | refine yQ ?_ GE925.out | refine yQ ?_ GE927.out)); (case side4 => exact HC0_2.out); (case side5 => exact yM HR1.out (by with_reducible repeat first | exact HB.out | apply yO | apply yN | apply yP | refine yQ ?_ GE925.out | refine yQ ?_ GE927.out)); (case side6 => exact HC1.out); (case side7 => exact yM HR3.out (by with_reducible repeat first | exact HB.out | apply yO | apply yN | apply yP | refine yQ ?_ GE925.out | refine yQ ?_ GE927.out)); (case side8 => exact HC3.out); rintro e w89 ⟨rfl, hb⟩; refine ⟨_, rfl, ?_⟩; replace BK925 := yA (yU (g := gb925) (o := .cells #[.int .i64 a0_0, .slice A0_1 l0_1.length c0_1, .slice A0_2 l0_2.length c0_2] 32 (0, 0)) (by (with_reducible repeat (first | refine yS ?_ _ | refine yT ?_ | refine yR ?_ _)); refine blk_far ?_ NB925_927.out _; (with_reducible repeat (first | refine yS ?_ _ | refine yT ?_ | refine yR ?_ _)); refine blk_far ?_ NB925_927.out _; (with_reducible repeat (first | refine yS ?_ _ | refine yT ?_ | refine yR ?_ _)); refine blk_far ?_ NB925_927.out _; (with_reducible repeat (first | refine yS ?_ _ | refine yT ?_ | refine yR ?_ _)); refine blk_far ?_ NB925_927.out _; (with_reducible repeat (first | refine yS ?_ _ | refine yT ?_ | refine yR ?_ _)); exact BK925.out) hb); replace BK927 := yA (yU (g := gb927) (o := .cells #[.int .i64 ((rd_T71 l1 a2).f0), .int .i64 ((rd_T71 l1 a2).f1), .int .i64 ((rd_T71 l1 a2).f2), .int .i64 ((rd_T71 l1 a2).f3)] 71 (0, 0)) (by (with_reducible repeat (first | refine yS ?_ _ | refine yT ?_ | refine yR ?_ _)); refine blk_put (cs := #[.int .i64 ((rd_T71 l1 a2).f0), .int .i64 ((rd_T71 l1 a2).f1), .int .i64 ((rd_T71 l1 a2).f2), .int .i64 0]) ?_ 3 _ rfl; (with_reducible repeat (first | refine yS ?_ _ | refine yT ?_ | refine yR ?_ _)); refine blk_put (cs := #[.int .i64 ((rd_T71 l1 a2).f0), .int .i64 ((rd_T71 l1 a2).f1), .int .i64 0, .int .i64 0]) ?_ 2 _ rfl; (with_reducible repeat (first | refine yS ?_ _ | refine yT ?_ | refine yR ?_ _)); refine blk_put (cs := #[.int .i64 ((rd_T71 l1 a2).f0), .int .i64 0, .int .i64 0, .int .i64 0]) ?_ 1 _ rfl; (with_reducible repeat (first | refine yS ?_ _ | refine yT ?_ | refine yR ?_ _)); refine blk_put (cs := #[.int .i64 0, .int .i64 0, .int .i64 0, .int .i64 0]) ?_ 0 _ rfl; (with_reducible repeat (first | refine yS ?_ _ | refine yT ?_ | refine yR ?_ _)); exact BK927.out) hb); replace HB := yA (zD (by with_reducible repeat first | exact HB.out | apply yO | apply yN | apply yP | refine yQ ?_ GE925.out | refine yQ ?_ GE927.out) hb); (try clear hb); (try clear hb2); (try clear hk); (try clear hi)))
         go_ret
         exact ⟨by first | rfl | (simp [errW_none, errW_some] <;> rfl) | (simp [*, errW_none, errW_some] <;> rfl), by repeat (first | (with_reducible first | exact HB.out | apply yO | apply yN | apply yP | refine yQ ?_ GE925.out | refine yQ ?_ GE927.out) | exact HB.out)⟩
       ·rw [if_neg c71] at H
        have c71b0 : (((rd_T71 l1 a2).f0) == 7) = false := beq_eq_false_iff_ne.mpr c71
        have c71b1 : (((rd_T71 l1 a2).f0) != 7) = true := bne_iff_ne.mpr c71
        by_cases c90 : ((rd_T71 l1 a2).f0) = 8
        ·rw [if_pos c90] at H
         have c90b0 : (((rd_T71 l1 a2).f0) == 8) = true := beq_iff_eq.mpr c90
         have c90b1 : (((rd_T71 l1 a2).f0) != 8) = false := bne_eq_false_iff_eq.mpr c90
         clear c90
         obtain ⟨t941, A91, H⟩ := bE H
         by_cases c92 : t941 = true
         ·subst c92
          replace H := iT H
          obtain rfl := zU H
          go_enter Try.func96, Try.ntmps96
          go_wp2_with (first | ((with_reducible refine gate_dst (N := 5) rfl ?_); refine box_event ?hg (N := 5) ?hd (cs := #[.int .i64 a0_0, .slice A0_1 l0_1.length c0_1, .slice A0_2 l0_2.length c0_2]) (t := 32) ?hr ?_; (case hd => rfl); (case hg => rfl); (case hr => first | (go_simp; done) | (go_simp; rfl)); intro gb925 hg w93 hbox hb; have BK925 := yA (hbox); have GW925 := yA ((by rw [hg]; exact (yX (mB HB.out)) : w.heap.size ≤ gb925)); have GE925 := yA ((by rw [hg]; exact (yX (mB HB.out)) : w.heap.size ≤ gb925)); replace HB := yA (zD (mB HB.out) hb); clear hb hbox hg; have p926 : 0 ≤ (a2 : Int) := zG (by assumption); have q926 : a2 < (l1.length : Int) := zG (by assumption); obtain ⟨ad926, e926, hx926_0, hx926_1, hx926_2, hx926_3⟩ := at_T71 HR1.out a2 p926 q926; cases e926; replace hx926_0 := (HB.out.cell (zE w _ hx926_0)).trans hx926_0; replace hx926_1 := (HB.out.cell (zE w _ hx926_1)).trans hx926_1; replace hx926_2 := (HB.out.cell (zE w _ hx926_2)).trans hx926_2; replace hx926_3 := (HB.out.cell (zE w _ hx926_3)).trans hx926_3; replace p926 := eq_true p926; replace q926 := eq_true q926) | ((with_reducible refine gate_dst (N := 11) rfl ?_); refine box_event ?hg (N := 11) ?hd (cs := #[.int .i64 0, .int .i64 0, .int .i64 0, .int .i64 0]) (t := 71) ?hr ?_; (case hd => rfl); (case hg => rfl); (case hr => first | (go_simp; done) | (go_simp; rfl)); intro gb927 hg w94 hbox hb; have BK927 := yA (hbox); have GW927 := yA ((by rw [hg]; exact (yX (by with_reducible repeat first | exact HB.out | apply yO | apply yN | apply yP | refine yQ ?_ GE925.out)) : w.heap.size ≤ gb927)); have GE927 := yA ((by rw [hg]; exact (yX (by with_reducible repeat first | exact HB.out | apply yO | apply yN | apply yP | refine yQ ?_ GE925.out)) : w.heap.size ≤ gb927)); replace HB := yA (zD (by with_reducible repeat first | exact HB.out | apply yO | apply yN | apply yP | refine yQ ?_ GE925.out) hb); have NB925_927 := yA ((by rw [hg]; exact Nat.ne_of_lt (zX (mK BK925.out)) : gb925 ≠ gb927)); have NB927_925 := yA ((by rw [hg]; exact Nat.ne_of_gt (zX (mK BK925.out)) : gb927 ≠ gb925)); replace BK925 := yA (yU (mK BK925.out) hb); clear hb hbox hg; have hnb95 := NB927_925.out; have hnc95 := NB925_927.out; have hcz96_0 : w94.cell? ⟨gb927, 0, none⟩ = some (.int .i64 0) := (yV BK927.out 0).trans rfl; have hcz96_1 : w94.cell? ⟨gb927, 1, none⟩ = some (.int .i64 0) := (yV BK927.out 1).trans rfl; have hcz96_2 : w94.cell? ⟨gb927, 2, none⟩ = some (.int .i64 0) := (yV BK927.out 2).trans rfl; have hcz96_3 : w94.cell? ⟨gb927, 3, none⟩ = some (.int .i64 0) := (yV BK927.out 3).trans rfl; have hfz96_0 := yW BK927.out 0; have hfz96_1 := yW BK927.out 1; have hfz96_2 := yW BK927.out 2; have hfz96_3 := yW BK927.out 3; have hcz97_0 : w94.cell? ⟨gb925, 0, none⟩ = some (.int .i64 a0_0) := (yV BK925.out 0).trans rfl; have hcz97_1 : w94.cell? ⟨gb925, 1, none⟩ = some (.slice A0_1 l0_1.length c0_1) := (yV BK925.out 1).trans rfl; have hcz97_2 : w94.cell? ⟨gb925, 2, none⟩ = some (.slice A0_2 l0_2.length c0_2) := (yV BK925.out 2).trans rfl; have hfz97_0 := yW BK925.out 0; have hfz97_1 := yW BK925.out 1; have hfz97_2 := yW BK925.out 2) | ((with_reducible refine zS (f := 96) rfl ?_); refine goesL_ (some 124) rfl rfl Try.func96 (by kernel_rfl) rfl #[.agg #[.int .i64 a0_0, .slice A0_1 l0_1.length c0_1, .slice A0_2 l0_2.length c0_2], .slice (some ad926) l1.length c1, .int .i64 ((rd_T71 l1 a2).f1), .slice A3 l3.length c3, .int .i64 a4] rfl (by (try simp only [zI, zJ, zK]); first | done | rfl | (simp only [zL, zM]; rfl)) ?_; (with_reducible refine (ih k (by omega) a0_0 _ _ l0_1 _ _ l0_2 _ _ l1 ((rd_T71 l1 a2).f1) _ _ l3 a4 true _ ?side1 ?side2 ?side3 ?side4 ?side5 ?side6 ?side7 ?side8 A91.out).mono ?_); (case side1 => exact yM HR0_1.out (by with_reducible repeat first | exact HB.out | apply yO | apply yN | apply yP | refine yQ ?_ GE925.out | refine yQ ?_ GE927.out)); (case side2 => exact HC0_1.out); (case side3 => exact yM HR0_2.out (by with_reducible repeat first | exact HB.out | apply yO | apply yN | apply yP | refine yQ ?_ GE925.out | refine yQ ?_ GE927.out)); (case side4 => exact HC0_2.out); (case side5 => exact yM HR1.out (by with_reducible repeat first | exact HB.out | apply yO | apply yN | apply yP | refine yQ ?_ GE925.out | refine yQ ?_ GE927.out)); (case side6 => exact HC1.out); (case side7 => exact yM HR3.out (by with_reducible repeat first | exact HB.out | apply yO | apply yN | apply yP | refine yQ ?_ GE925.out | refine yQ ?_ GE927.out)); (case side8 => exact HC3.out); rintro e w98 ⟨rfl, hb⟩; refine ⟨_, rfl, ?_⟩; replace BK925 := yA (yU (g := gb925) (o := .cells #[.int .i64 a0_0, .slice A0_1 l0_1.length c0_1, .slice A0_2 l0_2.length c0_2] 32 (0, 0)) (by (with_reducible repeat (first | refine yS ?_ _ | refine yT ?_ | refine yR ?_ _)); refine blk_far ?_ NB925_927.out _; (with_reducible repeat (first | refine yS ?_ _ | refine yT ?_ | refine yR ?_ _)); refine blk_far ?_ NB925_927.out _; (with_reducible repeat (first | refine yS ?_ _ | refine yT ?_ | refine yR ?_ _)); refine blk_far ?_ NB925_927.out _; (with_reducible repeat (first | refine yS ?_ _ | refine yT ?_ | refine yR ?_ _)); refine blk_far ?_ NB925_927.out _; (with_reducible repeat (first | refine yS ?_ _ | refine yT ?_ | refine yR ?_ _)); exact BK925.out) hb); replace BK927 := yA (yU (g := gb927) (o := .cells #[.int .i64 ((rd_T71 l1 a2).f0), .int .i64 ((rd_T71 l1 a2).f1), .int .i64 ((rd_T71 l1 a2).f2), .int .i64 ((rd_T71 l1 a2).f3)] 71 (0, 0)) (by (with_reducible repeat (first | refine yS ?_ _ | refine yT ?_ | refine yR ?_ _)); refine blk_put (cs := #[.int .i64 ((rd_T71 l1 a2).f0), .int .i64 ((rd_T71 l1 a2).f1), .int .i64 ((rd_T71 l1 a2).f2), .int .i64 0]) ?_ 3 _ rfl; (with_reducible repeat (first | refine yS ?_ _ | refine yT ?_ | refine yR ?_ _)); refine blk_put (cs := #[.int .i64 ((rd_T71 l1 a2).f0), .int .i64 ((rd_T71 l1 a2).f1), .int .i64 0, .int .i64 0]) ?_ 2 _ rfl; (with_reducible repeat (first | refine yS ?_ _ | refine yT ?_ | refine yR ?_ _)); refine blk_put (cs := #[.int .i64 ((rd_T71 l1 a2).f0), .int .i64 0, .int .i64 0, .int .i64 0]) ?_ 1 _ rfl; (with_reducible repeat (first | refine yS ?_ _ | refine yT ?_ | refine yR ?_ _)); refine blk_put (cs := #[.int .i64 0, .int .i64 0, .int .i64 0, .int .i64 0]) ?_ 0 _ rfl; (with_reducible repeat (first | refine yS ?_ _ | refine yT ?_ | refine yR ?_ _)); exact BK927.out) hb); replace HB := yA (zD (by with_reducible repeat first | exact HB.out | apply yO | apply yN | apply yP | refine yQ ?_ GE925.out | refine yQ ?_ GE927.out) hb); (try clear hb); (try clear hb2); (try clear hk); (try clear hi)))
          go_ret
          exact ⟨by first | rfl | (simp [errW_none, errW_some] <;> rfl) | (simp [*, errW_none, errW_some] <;> rfl), by repeat (first | (with_reducible first | exact HB.out | apply yO | apply yN | apply yP | refine yQ ?_ GE925.out | refine yQ ?_ GE927.out) | exact HB.out)⟩
         ·replace c92 := Bool.eq_false_iff.mpr c92
          subst c92
          replace H := iF H
          obtain ⟨t942, A99, H⟩ := bE H
          obtain rfl := zU H
          go_enter Try.func96, Try.ntmps96
          go_wp2_with (first | ((with_reducible refine gate_dst (N := 5) rfl ?_); refine box_event ?hg (N := 5) ?hd (cs := #[.int .i64 a0_0, .slice A0_1 l0_1.length c0_1, .slice A0_2 l0_2.length c0_2]) (t := 32) ?hr ?_; (case hd => rfl); (case hg => rfl); (case hr => first | (go_simp; done) | (go_simp; rfl)); intro gb925 hg w100 hbox hb; have BK925 := yA (hbox); have GW925 := yA ((by rw [hg]; exact (yX (mB HB.out)) : w.heap.size ≤ gb925)); have GE925 := yA ((by rw [hg]; exact (yX (mB HB.out)) : w.heap.size ≤ gb925)); replace HB := yA (zD (mB HB.out) hb); clear hb hbox hg; have p926 : 0 ≤ (a2 : Int) := zG (by assumption); have q926 : a2 < (l1.length : Int) := zG (by assumption); obtain ⟨ad926, e926, hx926_0, hx926_1, hx926_2, hx926_3⟩ := at_T71 HR1.out a2 p926 q926; cases e926; replace hx926_0 := (HB.out.cell (zE w _ hx926_0)).trans hx926_0; replace hx926_1 := (HB.out.cell (zE w _ hx926_1)).trans hx926_1; replace hx926_2 := (HB.out.cell (zE w _ hx926_2)).trans hx926_2; replace hx926_3 := (HB.out.cell (zE w _ hx926_3)).trans hx926_3; replace p926 := eq_true p926; replace q926 := eq_true q926) | ((with_reducible refine gate_dst (N := 11) rfl ?_); refine box_event ?hg (N := 11) ?hd (cs := #[.int .i64 0, .int .i64 0, .int .i64 0, .int .i64 0]) (t := 71) ?hr ?_; (case hd => rfl); (case hg => rfl); (case hr => first | (go_simp; done) | (go_simp; rfl)); intro gb927 hg w101 hbox hb; have BK927 := yA (hbox); have GW927 := yA ((by rw [hg]; exact (yX (by with_reducible repeat first | exact HB.out | apply yO | apply yN | apply yP | refine yQ ?_ GE925.out)) : w.heap.size ≤ gb927)); have GE927 := yA ((by rw [hg]; exact (yX (by with_reducible repeat first | exact HB.out | apply yO | apply yN | apply yP | refine yQ ?_ GE925.out)) : w.heap.size ≤ gb927)); replace HB := yA (zD (by with_reducible repeat first | exact HB.out | apply yO | apply yN | apply yP | refine yQ ?_ GE925.out) hb); have NB925_927 := yA ((by rw [hg]; exact Nat.ne_of_lt (zX (mK BK925.out)) : gb925 ≠ gb927)); have NB927_925 := yA ((by rw [hg]; exact Nat.ne_of_gt (zX (mK BK925.out)) : gb927 ≠ gb925)); replace BK925 := yA (yU (mK BK925.out) hb); clear hb hbox hg; have hnb102 := NB927_925.out; have hnc102 := NB925_927.out; have hcz103_0 : w101.cell? ⟨gb927, 0, none⟩ = some (.int .i64 0) := (yV BK927.out 0).trans rfl; have hcz103_1 : w101.cell? ⟨gb927, 1, none⟩ = some (.int .i64 0) := (yV BK927.out 1).trans rfl; have hcz103_2 : w101.cell? ⟨gb927, 2, none⟩ = some (.int .i64 0) := (yV BK927.out 2).trans rfl; have hcz103_3 : w101.cell? ⟨gb927, 3, none⟩ = some (.int .i64 0) := (yV BK927.out 3).trans rfl; have hfz103_0 := yW BK927.out 0; have hfz103_1 := yW BK927.out 1; have hfz103_2 := yW BK927.out 2; have hfz103_3 := yW BK927.out 3; have hcz104_0 : w101.cell? ⟨gb925, 0, none⟩ = some (.int .i64 a0_0) := (yV BK925.out 0).trans rfl; have hcz104_1 : w101.cell? ⟨gb925, 1, none⟩ = some (.slice A0_1 l0_1.length c0_1) := (yV BK925.out 1).trans rfl; have hcz104_2 : w101.cell? ⟨gb925, 2, none⟩ = some (.slice A0_2 l0_2.length c0_2) := (yV BK925.out 2).trans rfl; have hfz104_0 := yW BK925.out 0; have hfz104_1 := yW BK925.out 1; have hfz104_2 := yW BK925.out 2) | ((with_reducible refine zS (f := 96) rfl ?_); refine goesL_ (some 124) rfl rfl Try.func96 (by kernel_rfl) rfl #[.agg #[.int .i64 a0_0, .slice A0_1 l0_1.length c0_1, .slice A0_2 l0_2.length c0_2], .slice (some ad926) l1.length c1, .int .i64 ((rd_T71 l1 a2).f1), .slice A3 l3.length c3, .int .i64 a4] rfl (by (try simp only [zI, zJ, zK]); first | done | rfl | (simp only [zL, zM]; rfl)) ?_; (with_reducible refine (ih k (by omega) a0_0 _ _ l0_1 _ _ l0_2 _ _ l1 ((rd_T71 l1 a2).f1) _ _ l3 a4 false _ ?side1 ?side2 ?side3 ?side4 ?side5 ?side6 ?side7 ?side8 A91.out).mono ?_); (case side1 => exact yM HR0_1.out (by with_reducible repeat first | exact HB.out | apply yO | apply yN | apply yP | refine yQ ?_ GE925.out | refine yQ ?_ GE927.out)); (case side2 => exact HC0_1.out); (case side3 => exact yM HR0_2.out (by with_reducible repeat first | exact HB.out | apply yO | apply yN | apply yP | refine yQ ?_ GE925.out | refine yQ ?_ GE927.out)); (case side4 => exact HC0_2.out); (case side5 => exact yM HR1.out (by with_reducible repeat first | exact HB.out | apply yO | apply yN | apply yP | refine yQ ?_ GE925.out | refine yQ ?_ GE927.out)); (case side6 => exact HC1.out); (case side7 => exact yM HR3.out (by with_reducible repeat first | exact HB.out | apply yO | apply yN | apply yP | refine yQ ?_ GE925.out | refine yQ ?_ GE927.out)); (case side8 => exact HC3.out); rintro e w105 ⟨rfl, hb⟩; refine ⟨_, rfl, ?_⟩; replace BK925 := yA (yU (g := gb925) (o := .cells #[.int .i64 a0_0, .slice A0_1 l0_1.length c0_1, .slice A0_2 l0_2.length c0_2] 32 (0, 0)) (by (with_reducible repeat (first | refine yS ?_ _ | refine yT ?_ | refine yR ?_ _)); refine blk_far ?_ NB925_927.out _; (with_reducible repeat (first | refine yS ?_ _ | refine yT ?_ | refine yR ?_ _)); refine blk_far ?_ NB925_927.out _; (with_reducible repeat (first | refine yS ?_ _ | refine yT ?_ | refine yR ?_ _)); refine blk_far ?_ NB925_927.out _; (with_reducible repeat (first | refine yS ?_ _ | refine yT ?_ | refine yR ?_ _)); refine blk_far ?_ NB925_927.out _; (with_reducible repeat (first | refine yS ?_ _ | refine yT ?_ | refine yR ?_ _)); exact BK925.out) hb); replace BK927 := yA (yU (g := gb927) (o := .cells #[.int .i64 ((rd_T71 l1 a2).f0), .int .i64 ((rd_T71 l1 a2).f1), .int .i64 ((rd_T71 l1 a2).f2), .int .i64 ((rd_T71 l1 a2).f3)] 71 (0, 0)) (by (with_reducible repeat (first | refine yS ?_ _ | refine yT ?_ | refine yR ?_ _)); refine blk_put (cs := #[.int .i64 ((rd_T71 l1 a2).f0), .int .i64 ((rd_T71 l1 a2).f1), .int .i64 ((rd_T71 l1 a2).f2), .int .i64 0]) ?_ 3 _ rfl; (with_reducible repeat (first | refine yS ?_ _ | refine yT ?_ | refine yR ?_ _)); refine blk_put (cs := #[.int .i64 ((rd_T71 l1 a2).f0), .int .i64 ((rd_T71 l1 a2).f1), .int .i64 0, .int .i64 0]) ?_ 2 _ rfl; (with_reducible repeat (first | refine yS ?_ _ | refine yT ?_ | refine yR ?_ _)); refine blk_put (cs := #[.int .i64 ((rd_T71 l1 a2).f0), .int .i64 0, .int .i64 0, .int .i64 0]) ?_ 1 _ rfl; (with_reducible repeat (first | refine yS ?_ _ | refine yT ?_ | refine yR ?_ _)); refine blk_put (cs := #[.int .i64 0, .int .i64 0, .int .i64 0, .int .i64 0]) ?_ 0 _ rfl; (with_reducible repeat (first | refine yS ?_ _ | refine yT ?_ | refine yR ?_ _)); exact BK927.out) hb); replace HB := yA (zD (by with_reducible repeat first | exact HB.out | apply yO | apply yN | apply yP | refine yQ ?_ GE925.out | refine yQ ?_ GE927.out) hb); (try clear hb); (try clear hb2); (try clear hk); (try clear hi); have hcz106_0 : w105.cell? ⟨gb925, 0, none⟩ = some (.int .i64 a0_0) := (yV BK925.out 0).trans rfl; have hcz106_1 : w105.cell? ⟨gb925, 1, none⟩ = some (.slice A0_1 l0_1.length c0_1) := (yV BK925.out 1).trans rfl; have hcz106_2 : w105.cell? ⟨gb925, 2, none⟩ = some (.slice A0_2 l0_2.length c0_2) := (yV BK925.out 2).trans rfl; have hfz106_0 := yW BK925.out 0; have hfz106_1 := yW BK925.out 1; have hfz106_2 := yW BK925.out 2; have hcz107_0 : w105.cell? ⟨gb927, 0, none⟩ = some (.int .i64 ((rd_T71 l1 a2).f0)) := (yV BK927.out 0).trans rfl; have hcz107_1 : w105.cell? ⟨gb927, 1, none⟩ = some (.int .i64 ((rd_T71 l1 a2).f1)) := (yV BK927.out 1).trans rfl; have hcz107_2 : w105.cell? ⟨gb927, 2, none⟩ = some (.int .i64 ((rd_T71 l1 a2).f2)) := (yV BK927.out 2).trans rfl; have hcz107_3 : w105.cell? ⟨gb927, 3, none⟩ = some (.int .i64 ((rd_T71 l1 a2).f3)) := (yV BK927.out 3).trans rfl; have hfz107_0 := yW BK927.out 0; have hfz107_1 := yW BK927.out 1; have hfz107_2 := yW BK927.out 2; have hfz107_3 := yW BK927.out 3) | (go_at_call 96; (with_reducible refine (ih k (by omega) a0_0 _ _ l0_1 _ _ l0_2 _ _ l1 ((rd_T71 l1 a2).f2) _ _ l3 a4 t942 _ ?side1 ?side2 ?side3 ?side4 ?side5 ?side6 ?side7 ?side8 A99.out).mono ?_); (case side1 => exact mC (yM HR0_1.out HB.out)); (case side2 => exact HC0_1.out); (case side3 => exact mC (yM HR0_2.out HB.out)); (case side4 => exact HC0_2.out); (case side5 => exact mC (yM HR1.out HB.out)); (case side6 => exact HC1.out); (case side7 => exact mC (yM HR3.out HB.out)); (case side8 => exact HC3.out); rintro e w108 ⟨rfl, hb⟩; replace BK925 := yA (yU (mK BK925.out) hb); replace BK927 := yA (yU (mK BK927.out) hb); replace HB := yA (zD (by with_reducible repeat first | exact HB.out | apply yO | apply yN | apply yP | refine yQ ?_ GE925.out | refine yQ ?_ GE927.out) hb); (try clear hb); (try clear hb2); (try clear hk); (try clear hi)))
          go_ret
          exact ⟨by first | rfl | (simp [errW_none, errW_some] <;> rfl) | (simp [*, errW_none, errW_some] <;> rfl), by repeat (first | (with_reducible first | exact HB.out | apply yO | apply yN | apply yP | refine yQ ?_ GE925.out | refine yQ ?_ GE927.out) | exact HB.out)⟩
        ·rw [if_neg c90] at H
         have c90b0 : (((rd_T71 l1 a2).f0) == 8) = false := beq_eq_false_iff_ne.mpr c90
         have c90b1 : (((rd_T71 l1 a2).f0) != 8) = true := bne_iff_ne.mpr c90
         have H' := yA H
         clear H
         go_enter Try.func96, Try.ntmps96
         go_wp2_with (first | ((with_reducible refine gate_dst (N := 5) rfl ?_); refine box_event ?hg (N := 5) ?hd (cs := #[.int .i64 a0_0, .slice A0_1 l0_1.length c0_1, .slice A0_2 l0_2.length c0_2]) (t := 32) ?hr ?_; (case hd => rfl); (case hg => rfl); (case hr => first | (go_simp; done) | (go_simp; rfl)); intro gb925 hg w109 hbox hb; have BK925 := yA (hbox); have GW925 := yA ((by rw [hg]; exact (yX (mB HB.out)) : w.heap.size ≤ gb925)); have GE925 := yA ((by rw [hg]; exact (yX (mB HB.out)) : w.heap.size ≤ gb925)); replace HB := yA (zD (mB HB.out) hb); clear hb hbox hg; have p926 : 0 ≤ (a2 : Int) := zG (by assumption); have q926 : a2 < (l1.length : Int) := zG (by assumption); obtain ⟨ad926, e926, hx926_0, hx926_1, hx926_2, hx926_3⟩ := at_T71 HR1.out a2 p926 q926; cases e926; replace hx926_0 := (HB.out.cell (zE w _ hx926_0)).trans hx926_0; replace hx926_1 := (HB.out.cell (zE w _ hx926_1)).trans hx926_1; replace hx926_2 := (HB.out.cell (zE w _ hx926_2)).trans hx926_2; replace hx926_3 := (HB.out.cell (zE w _ hx926_3)).trans hx926_3; replace p926 := eq_true p926; replace q926 := eq_true q926) | ((with_reducible refine gate_dst (N := 11) rfl ?_); refine box_event ?hg (N := 11) ?hd (cs := #[.int .i64 0, .int .i64 0, .int .i64 0, .int .i64 0]) (t := 71) ?hr ?_; (case hd => rfl); (case hg => rfl); (case hr => first | (go_simp; done) | (go_simp; rfl)); intro gb927 hg w110 hbox hb; have BK927 := yA (hbox); have GW927 := yA ((by rw [hg]; exact (yX (by with_reducible repeat first | exact HB.out | apply yO | apply yN | apply yP | refine yQ ?_ GE925.out)) : w.heap.size ≤ gb927)); have GE927 := yA ((by rw [hg]; exact (yX (by with_reducible repeat first | exact HB.out | apply yO | apply yN | apply yP | refine yQ ?_ GE925.out)) : w.heap.size ≤ gb927)); replace HB := yA (zD (by with_reducible repeat first | exact HB.out | apply yO | apply yN | apply yP | refine yQ ?_ GE925.out) hb); have NB925_927 := yA ((by rw [hg]; exact Nat.ne_of_lt (zX (mK BK925.out)) : gb925 ≠ gb927)); have NB927_925 := yA ((by rw [hg]; exact Nat.ne_of_gt (zX (mK BK925.out)) : gb927 ≠ gb925)); replace BK925 := yA (yU (mK BK925.out) hb); clear hb hbox hg; have hnb111 := NB927_925.out; have hnc111 := NB925_927.out; have hcz112_0 : w110.cell? ⟨gb927, 0, none⟩ = some (.int .i64 0) := (yV BK927.out 0).trans rfl; have hcz112_1 : w110.cell? ⟨gb927, 1, none⟩ = some (.int .i64 0) := (yV BK927.out 1).trans rfl; have hcz112_2 : w110.cell? ⟨gb927, 2, none⟩ = some (.int .i64 0) := (yV BK927.out 2).trans rfl; have hcz112_3 : w110.cell? ⟨gb927, 3, none⟩ = some (.int .i64 0) := (yV BK927.out 3).trans rfl; have hfz112_0 := yW BK927.out 0; have hfz112_1 := yW BK927.out 1; have hfz112_2 := yW BK927.out 2; have hfz112_3 := yW BK927.out 3))
         go_loopg [12] k (fun kq v12 w' => ∃ (x12_1 : Int), v12 = .int .i64 x12_1 ∧ Aside0 (spec_l19Node.l0 kq l1 l3 a4 x12_1 a0_0 l0_1 l0_2 ((rd_T71 l1 a2).f0) ((rd_T71 l1 a2).f1) ((rd_T71 l1 a2).f2) ((rd_T71 l1 a2).f3) = some r) ∧ Aside0 (kq ≤ k) ∧ Aside0 (w'.heap[gb925]? = some (.cells #[.int .i64 a0_0, (.slice A0_1 l0_1.length c0_1), (.slice A0_2 l0_2.length c0_2)] 32 (0, 0))) ∧ Aside0 (w'.heap[gb927]? = some (.cells #[.int .i64 ((rd_T71 l1 a2).f0), .int .i64 ((rd_T71 l1 a2).f1), .int .i64 ((rd_T71 l1 a2).f2), .int .i64 ((rd_T71 l1 a2).f3)] 71 (0, 0))) ∧ Aside0 (Below w.heap.size w w'))
         case atStart => exact ⟨(0), (by first | rfl | (simp; done) | (simp [*]; done)), H', ⟨zT _⟩, ⟨by (with_reducible repeat (first | refine yS ?_ _ | refine yT ?_ | refine yR ?_ _)); refine blk_far ?_ NB925_927.out _; (with_reducible repeat (first | refine yS ?_ _ | refine yT ?_ | refine yR ?_ _)); refine blk_far ?_ NB925_927.out _; (with_reducible repeat (first | refine yS ?_ _ | refine yT ?_ | refine yR ?_ _)); refine blk_far ?_ NB925_927.out _; (with_reducible repeat (first | refine yS ?_ _ | refine yT ?_ | refine yR ?_ _)); refine blk_far ?_ NB925_927.out _; (with_reducible repeat (first | refine yS ?_ _ | refine yT ?_ | refine yR ?_ _)); exact BK925.out⟩, ⟨by (with_reducible repeat (first | refine yS ?_ _ | refine yT ?_ | refine yR ?_ _)); refine blk_put (cs := #[.int .i64 ((rd_T71 l1 a2).f0), .int .i64 ((rd_T71 l1 a2).f1), .int .i64 ((rd_T71 l1 a2).f2), .int .i64 0]) ?_ 3 _ rfl; (with_reducible repeat (first | refine yS ?_ _ | refine yT ?_ | refine yR ?_ _)); refine blk_put (cs := #[.int .i64 ((rd_T71 l1 a2).f0), .int .i64 ((rd_T71 l1 a2).f1), .int .i64 0, .int .i64 0]) ?_ 2 _ rfl; (with_reducible repeat (first | refine yS ?_ _ | refine yT ?_ | refine yR ?_ _)); refine blk_put (cs := #[.int .i64 ((rd_T71 l1 a2).f0), .int .i64 0, .int .i64 0, .int .i64 0]) ?_ 1 _ rfl; (with_reducible repeat (first | refine yS ?_ _ | refine yT ?_ | refine yR ?_ _)); refine blk_put (cs := #[.int .i64 0, .int .i64 0, .int .i64 0, .int .i64 0]) ?_ 0 _ rfl; (with_reducible repeat (first | refine yS ?_ _ | refine yT ?_ | refine yR ?_ _)); exact BK927.out⟩, ⟨by repeat (first | (with_reducible first | exact HB.out | apply yO | apply yN | apply yP | refine yQ ?_ GE925.out | refine yQ ?_ GE927.out) | exact HB.out)⟩⟩
         case round =>
          clear H'
          (try clear c1);(try clear p2);(try clear c3);(try clear c4);(try clear c5);(try clear c6);(try clear c7);(try clear c8);(try clear c9);(try clear p9);(try clear q9);(try clear hx9);(try clear c10);(try clear c11);(try clear c30);(try clear c30b0);(try clear c30b1);(try clear c31);(try clear c32);(try clear c33);(try clear c34);(try clear c35);(try clear c36);(try clear c43);(try clear c43b0);(try clear c43b1);(try clear c44);(try clear c44b0);(try clear c45);(try clear c45b0);(try clear c48);(try clear c52);(try clear c52b0);(try clear c52b1);(try clear c53);(try clear c53b0);(try clear c54);(try clear c54b0);(try clear c58);(try clear c63);(try clear c63b0);(try clear c63b1);(try clear c67);(try clear c71);(try clear c71b0);(try clear c71b1);(try clear c73);(try clear c77);(try clear c86);(try clear c90);(try clear c90b0);(try clear c90b1);(try clear c92);(try clear p92);(try clear q92);(try clear hx92);(try clear p93);(try clear q93);(try clear hx93);(try clear c95);(try clear c96);(try clear c102);(try clear c111);(try clear hcz103_0);(try clear hcz103_1);(try clear hcz103_2);(try clear hcz103_3);(try clear hcz104_0);(try clear hcz104_1);(try clear hcz104_2);(try clear hcz106_0);(try clear hcz106_1);(try clear hcz106_2);(try clear hcz107_0);(try clear hcz107_1);(try clear hcz107_2);(try clear hcz107_3);(try clear hcz112_0);(try clear hcz112_1);(try clear hcz112_2);(try clear hcz112_3);(try clear hcz49_0);(try clear hcz49_1);(try clear hcz49_2);(try clear hcz49_3);(try clear hcz59_0);(try clear hcz59_1);(try clear hcz59_2);(try clear hcz59_3);(try clear hcz68_0);(try clear hcz68_1);(try clear hcz68_2);(try clear hcz68_3);(try clear hcz69_0);(try clear hcz69_1);(try clear hcz69_2);(try clear hcz78_0);(try clear hcz78_1);(try clear hcz78_2);(try clear hcz78_3);(try clear hcz79_0);(try clear hcz79_1);(try clear hcz79_2);(try clear hcz81_0);(try clear hcz81_1);(try clear hcz81_2);(try clear hcz82_0);(try clear hcz82_1);(try clear hcz82_2);(try clear hcz82_3);(try clear hcz87_0);(try clear hcz87_1);(try clear hcz87_2);(try clear hcz87_3);(try clear hcz88_0);(try clear hcz88_1);(try clear hcz88_2);(try clear hcz96_0);(try clear hcz96_1);(try clear hcz96_2);(try clear hcz96_3);(try clear hcz97_0);(try clear hcz97_1);(try clear hcz97_2);(try clear hfz103_0);(try clear hfz103_1);(try clear hfz103_2);(try clear hfz103_3);(try clear hfz104_0);(try clear hfz104_1);(try clear hfz104_2);(try clear hfz106_0);(try clear hfz106_1);(try clear hfz106_2);(try clear hfz107_0);(try clear hfz107_1);(try clear hfz107_2);(try clear hfz107_3);(try clear hfz112_0);(try clear hfz112_1);(try clear hfz112_2);(try clear hfz112_3);(try clear hfz49_0);(try clear hfz49_1);(try clear hfz49_2);(try clear hfz49_3);(try clear hfz59_0);(try clear hfz59_1);(try clear hfz59_2);(try clear hfz59_3);(try clear hfz68_0);(try clear hfz68_1);(try clear hfz68_2);(try clear hfz68_3);(try clear hfz69_0);(try clear hfz69_1);(try clear hfz69_2);(try clear hfz78_0);(try clear hfz78_1);(try clear hfz78_2);(try clear hfz78_3);(try clear hfz79_0);(try clear hfz79_1);(try clear hfz79_2);(try clear hfz81_0);(try clear hfz81_1);(try clear hfz81_2);(try clear hfz82_0);(try clear hfz82_1);(try clear hfz82_2);(try clear hfz82_3);(try clear hfz87_0);(try clear hfz87_1);(try clear hfz87_2);(try clear hfz87_3);(try clear hfz88_0);(try clear hfz88_1);(try clear hfz88_2);(try clear hfz96_0);(try clear hfz96_1);(try clear hfz96_2);(try clear hfz96_3);(try clear hfz97_0);(try clear hfz97_1);(try clear hfz97_2);(try clear hx926_0);(try clear hx926_1);(try clear hx926_2);(try clear hx926_3);(try clear hx932_0);(try clear hx933_0);(try clear hx934_0);(try clear hx935_0);(try clear hx936_0);(try clear p926);(try clear p932);(try clear p933);(try clear p934);(try clear p935);(try clear p936);(try clear q926);(try clear q932);(try clear q933);(try clear q934);(try clear q935);(try clear q936)
          obtain ⟨x12_1, rfl, HA, HK1, BK925, BK927, HB⟩ := hrel
          cases gk with
          | zero => exact absurd HA.out (by simp [spec_l19Node.l0])
          | succ k1 =>
           have H := HA.out
           clear HA
           simp only [spec_l19Node.l0] at H
           by_cases c113 : x12_1 ≤ a4
           ·rw [if_pos c113] at H
            have c113b0 : decide (x12_1 ≤ a4) = true := zH c113
            clear c113
            (first | ((with_reducible replace H := bS H); obtain ⟨y943, Ny943, H⟩ := H) | (obtain ⟨y943, Ny943⟩ : ∃ y_ : List Int, y_ = (([] : List Int)) := ⟨_, rfl⟩; rw [← Ny943] at H; replace Ny943 := yA Ny943))
            obtain ⟨c114, H⟩ := iP H
            have LMc114 := yA c114
            clear c114
            (first | ((with_reducible replace H := bS H); obtain ⟨y946, Ny946, H⟩ := H) | (obtain ⟨y946, Ny946⟩ : ∃ y_ : List Int, y_ = (y943 ++ l3) := ⟨_, rfl⟩; rw [← Ny946] at H; replace Ny946 := yA Ny946))
            obtain ⟨c115, H⟩ := iP H
            have c115b0 : decide (0 ≤ ((rd_T71 l1 a2).f1)) = true := zH c115
            clear c115
            obtain ⟨c116, H⟩ := iP H
            have c116b0 : decide (((rd_T71 l1 a2).f1) < (y946.length : Int)) = true := zH c116
            clear c116
            (first | ((with_reducible replace H := bS H); obtain ⟨y949, Ny949, H⟩ := H) | (obtain ⟨y949, Ny949⟩ : ∃ y_ : List Int, y_ = (y946.set (((rd_T71 l1 a2).f1) : Int).toNat x12_1) := ⟨_, rfl⟩; rw [← Ny949] at H; replace Ny949 := yA Ny949))
            obtain ⟨t950, A118, H⟩ := bE H
            by_cases c119 : (t950 == (((rd_T71 l1 a2).f0) == 9)) = true
            ·rw [if_pos c119] at H
             have c119b0 : (t950 == (((rd_T71 l1 a2).f0) == 9)) = true := c119
             (try (have c119b1 : decide (t950 = (((rd_T71 l1 a2).f0) == 9)) = true := by simpa using c119))
             (try (have c119b2 : (t950 == (((rd_T71 l1 a2).f0) == 9)) = true := by simpa using c119))
             clear c119
             obtain rfl := zU H
             go_wp2_with (first | ((with_reducible refine gate_dst (N := 139) rfl ?_); refine Kd.R_lit (Kd.int .i64) _ 3 ?hg (N := 139) ?hd (xs := ([] : List Int)) (inner := []) (ok := fun _ => True) (okp := fun _ => True) ?hr ?hp (fun _ hk => hk) trivial (zV _ _) (zT _) (by simp) ?_; (case hd => rfl); (case hg => rfl); (case hr => first | (go_simp; done) | (go_simp; rfl)); (case hp => exact (Reps.none _ _)); intro v944 w120 ho121 hb hg_ hnew_; clear hg_ hnew_; (first | rw [← Ny943.out] at ho121 | (simp only [Int.reduceToNat] at ho121; rw [← Ny943.out] at ho121)); have HO945 := yA (Kd.R_lower ho121 (yX (by with_reducible repeat first | exact HB.out | apply yO | apply yN | apply yP | refine yQ ?_ GE925.out | refine yQ ?_ GE927.out))); replace BK925 := yA (yU (mK BK925.out) hb); replace BK927 := yA (yU (mK BK927.out) hb); replace HB := yA (zD (by with_reducible repeat first | exact HB.out | apply yO | apply yN | apply yP | refine yQ ?_ GE925.out | refine yQ ?_ GE927.out) hb); clear hb ho121) | ((with_reducible refine gate_builtin (b := .append) (xs := #[.tmp 139, .tmp 140]) rfl ?_); at_builtin; refine Kd.R_append_rows (Kd.int .i64) (w0 := w) w.heap.size rfl (.tmp 139) (.tmp 140) 23 3 (.int .i64 0) 8 rfl Try.underlying23 info3 rfl (by decide) (by omega) v944 y943 l3 _ _ _ (fun _ => True) (fun _ => False) rfl rfl ?aO ?aR (fun _ _ h => h) (fun _ h => h.elim) ?aF ?aB ?aS ?aL ?_; (case aR => exact mC (yM HR3.out HB.out)); (case aB => exact (by with_reducible repeat first | exact HB.out | apply yO | apply yN | apply yP | refine yQ ?_ GE925.out | refine yQ ?_ GE927.out)); (case aF => exact (fun _ _ => trivial)); (case aO => exact (mR HO945.out)); (case aS => exact (yX (by with_reducible repeat first | exact HB.out | apply yO | apply yN | apply yP | refine yQ ?_ GE925.out | refine yQ ?_ GE927.out))); (case aL => have := LMc114.out; omega); intro v947 w122 ho hb hg hat; rw [← Ny946.out] at ho; replace BK925 := yA (blk_grown (g := gb925) (o := .cells #[.int .i64 a0_0, .slice A0_1 l0_1.length c0_1, .slice A0_2 l0_2.length c0_2] 32 (0, 0)) (mK BK925.out) hg (zW HO945.out BK925.out (by decide))); replace BK927 := yA (blk_grown (g := gb927) (o := .cells #[.int .i64 ((rd_T71 l1 a2).f0), .int .i64 ((rd_T71 l1 a2).f1), .int .i64 ((rd_T71 l1 a2).f2), .int .i64 ((rd_T71 l1 a2).f3)] 71 (0, 0)) (mK BK927.out) hg (zW HO945.out BK927.out (by decide))); replace HB := yA (hb); have HO948 := yA (ho); clear HO945; clear ho hb hg hat; have hnb123 := NB927_925.out; have hnc123 := NB925_927.out; have hcz124_0 : w122.cell? ⟨gb927, 0, none⟩ = some (.int .i64 ((rd_T71 l1 a2).f0)) := (yV BK927.out 0).trans rfl; have hcz124_1 : w122.cell? ⟨gb927, 1, none⟩ = some (.int .i64 ((rd_T71 l1 a2).f1)) := (yV BK927.out 1).trans rfl; have hcz124_2 : w122.cell? ⟨gb927, 2, none⟩ = some (.int .i64 ((rd_T71 l1 a2).f2)) := (yV BK927.out 2).trans rfl; have hcz124_3 : w122.cell? ⟨gb927, 3, none⟩ = some (.int .i64 ((rd_T71 l1 a2).f3)) := (yV BK927.out 3).trans rfl; have hfz124_0 := yW BK927.out 0; have hfz124_1 := yW BK927.out 1; have hfz124_2 := yW BK927.out 2; have hfz124_3 := yW BK927.out 3; have p117 : 0 ≤ (((rd_T71 l1 a2).f1) : Int) := zG (by assumption); have q117 : (((rd_T71 l1 a2).f1) : Int) < ((y946.length : Int) : Int) := zG (by assumption); obtain ⟨go117, co117, eo117, gb117, gl117, cl117, HG117⟩ := Kd.R_form HO948.out (by omega); (first | cases eo117 | (injection eo117 with ea_ en_ ec_; (first | subst ea_ | (injection ea_ with ea_; subst ea_)); subst ec_; clear en_)); have GB117 := yA gb117; have GG117 := yA HG117; clear gb117 gl117 HG117; obtain ⟨hx117_0, hf117_0⟩ := Kd.R_celln 0 HO948.out (((rd_T71 l1 a2).f1) : Int) p117 q117; replace p117 := eq_true p117; replace q117 := eq_true q117; obtain ⟨hy125_, hz125_⟩ := Kd.R_celln 0 HO948.out (((rd_T71 l1 a2).f1) : Int) (zG (by assumption)) (zG (by assumption)); have HP125 := Kd.R_putg HO948.out (((rd_T71 l1 a2).f1) : Int) x12_1) | ((with_reducible refine gate_store (t := 3) (p := 146) rfl ?_); refine store_event (t := 3) (p := 146) (v := ?vo_w126) (w1 := (w122.setCell ⟨go117, (((rd_T71 l1 a2).f1) : Int).toNat, none⟩ (.int .i64 x12_1))) ?hg ?ho ?hn ?hr ?_; (case ho => rfl); (case hg => rfl); (case hn => rfl); (case hr => first | (go_simp; done) | (go_simp; rfl)); intro w126 hw; have hg : w122.grownBy w126 (some go117) := (by rw [hw]; exact HP125.2); have hp_ : Kd.R (Kd.int .i64) 3 w126 w.heap.size (fun _ => True) (.slice (some ⟨go117, 0, none⟩) y946.length co117) y949 := (by rw [hw, Ny949.out]; exact HP125.1); clear HP125; replace BK925 := yA (blk_grown (g := gb925) (o := .cells #[.int .i64 a0_0, .slice A0_1 l0_1.length c0_1, .slice A0_2 l0_2.length c0_2] 32 (0, 0)) (mK BK925.out) hg (zW HO948.out BK925.out (by decide))); replace BK927 := yA (blk_grown (g := gb927) (o := .cells #[.int .i64 ((rd_T71 l1 a2).f0), .int .i64 ((rd_T71 l1 a2).f1), .int .i64 ((rd_T71 l1 a2).f2), .int .i64 ((rd_T71 l1 a2).f3)] 71 (0, 0)) (mK BK927.out) hg (zW HO948.out BK927.out (by decide))); replace HO948 := yA (hp_); replace HB := yA ((by rw [hw]; exact yQ (HB.out) GB117.out : Below w.heap.size w w126)); clear hg hw hp_; have hcz127_0 : w126.cell? ⟨gb925, 0, none⟩ = some (.int .i64 a0_0) := (yV BK925.out 0).trans rfl; have hcz127_1 : w126.cell? ⟨gb925, 1, none⟩ = some (.slice A0_1 l0_1.length c0_1) := (yV BK925.out 1).trans rfl; have hcz127_2 : w126.cell? ⟨gb925, 2, none⟩ = some (.slice A0_2 l0_2.length c0_2) := (yV BK925.out 2).trans rfl; have hfz127_0 := yW BK925.out 0; have hfz127_1 := yW BK925.out 1; have hfz127_2 := yW BK925.out 2; have hcz128_0 : w126.cell? ⟨gb927, 0, none⟩ = some (.int .i64 ((rd_T71 l1 a2).f0)) := (yV BK927.out 0).trans rfl; have hcz128_1 : w126.cell? ⟨gb927, 1, none⟩ = some (.int .i64 ((rd_T71 l1 a2).f1)) := (yV BK927.out 1).trans rfl; have hcz128_2 : w126.cell? ⟨gb927, 2, none⟩ = some (.int .i64 ((rd_T71 l1 a2).f2)) := (yV BK927.out 2).trans rfl; have hcz128_3 : w126.cell? ⟨gb927, 3, none⟩ = some (.int .i64 ((rd_T71 l1 a2).f3)) := (yV BK927.out 3).trans rfl; have hfz128_0 := yW BK927.out 0; have hfz128_1 := yW BK927.out 1; have hfz128_2 := yW BK927.out 2; have hfz128_3 := yW BK927.out 3) | ((with_reducible refine zS (f := 96) rfl ?_); refine goesL_ (some 153) rfl rfl Try.func96 (by kernel_rfl) rfl #[.agg #[.int .i64 a0_0, .slice A0_1 l0_1.length c0_1, .slice A0_2 l0_2.length c0_2], .slice (some ad926) l1.length c1, .int .i64 ((rd_T71 l1 a2).f2), .slice (some ⟨go117, 0, none⟩) y949.length co117, .int .i64 a4] rfl (by (try simp only [zI, zJ, zK]); first | done | (rw [show y949.length = y946.length from (zN HO948.out).1.symm] <;> rfl) | rfl | (simp only [zL, zM]; rfl)) ?_; (with_reducible refine (ih k1 (by have := HK1.out; omega) a0_0 _ _ l0_1 _ _ l0_2 _ _ l1 ((rd_T71 l1 a2).f2) _ _ y949 a4 t950 _ ?side1 ?side2 ?side3 ?side4 ?side5 ?side6 ?side7 ?side8 A118.out).mono ?_); (case side1 => exact mC (yM HR0_1.out HB.out)); (case side2 => exact HC0_1.out); (case side3 => exact mC (yM HR0_2.out HB.out)); (case side4 => exact HC0_2.out); (case side5 => exact mC (yM HR1.out HB.out)); (case side6 => exact HC1.out); (case side7 => exact mC ((zN HO948.out).2.2)); (case side8 => rw [show y949.length = y946.length from (zN HO948.out).1.symm]; exact (zN HO948.out).2.1); rintro e w129 ⟨rfl, hb⟩; refine ⟨_, rfl, ?_⟩; replace HO948 := yA (yK (mR HO948.out) hb); replace BK925 := yA (yU (mK BK925.out) hb); replace BK927 := yA (yU (mK BK927.out) hb); replace HB := yA (zD (by with_reducible repeat first | exact HB.out | apply yO | apply yN | apply yP | refine yQ ?_ GE925.out | refine yQ ?_ GE927.out) hb); (try clear hb); (try clear hb2); (try clear hk); (try clear hi); have hcz130_0 : w129.cell? ⟨gb927, 0, none⟩ = some (.int .i64 ((rd_T71 l1 a2).f0)) := (yV BK927.out 0).trans rfl; have hcz130_1 : w129.cell? ⟨gb927, 1, none⟩ = some (.int .i64 ((rd_T71 l1 a2).f1)) := (yV BK927.out 1).trans rfl; have hcz130_2 : w129.cell? ⟨gb927, 2, none⟩ = some (.int .i64 ((rd_T71 l1 a2).f2)) := (yV BK927.out 2).trans rfl; have hcz130_3 : w129.cell? ⟨gb927, 3, none⟩ = some (.int .i64 ((rd_T71 l1 a2).f3)) := (yV BK927.out 3).trans rfl; have hfz130_0 := yW BK927.out 0; have hfz130_1 := yW BK927.out 1; have hfz130_2 := yW BK927.out 2; have hfz130_3 := yW BK927.out 3))
             go_ret
             exact ⟨by first | rfl | (simp [errW_none, errW_some] <;> rfl) | (simp [*, errW_none, errW_some] <;> rfl), by repeat (first | (with_reducible first | exact HB.out | apply yO | apply yN | apply yP | refine yQ ?_ GE925.out | refine yQ ?_ GE927.out) | exact HB.out)⟩
            ·rw [if_neg c119] at H
             have c119b0 : (t950 == (((rd_T71 l1 a2).f0) == 9)) = false := by simpa using c119
             (try (have c119b1 : decide (t950 = (((rd_T71 l1 a2).f0) == 9)) = false := by simpa using c119))
             (try (have c119b2 : (t950 == (((rd_T71 l1 a2).f0) == 9)) = false := by simpa using c119))
             (try (have c119b3 : ¬ (t950 = (((rd_T71 l1 a2).f0) == 9)) := by simpa using c119))
             clear c119
             have H' := yA H
             clear H
             go_wp2_with (first | ((with_reducible refine gate_dst (N := 139) rfl ?_); refine Kd.R_lit (Kd.int .i64) _ 3 ?hg (N := 139) ?hd (xs := ([] : List Int)) (inner := []) (ok := fun _ => True) (okp := fun _ => True) ?hr ?hp (fun _ hk => hk) trivial (zV _ _) (zT _) (by simp) ?_; (case hd => rfl); (case hg => rfl); (case hr => first | (go_simp; done) | (go_simp; rfl)); (case hp => exact (Reps.none _ _)); intro v944 w131 ho132 hb hg_ hnew_; clear hg_ hnew_; (first | rw [← Ny943.out] at ho132 | (simp only [Int.reduceToNat] at ho132; rw [← Ny943.out] at ho132)); have HO945 := yA (Kd.R_lower ho132 (yX (by with_reducible repeat first | exact HB.out | apply yO | apply yN | apply yP | refine yQ ?_ GE925.out | refine yQ ?_ GE927.out))); replace BK925 := yA (yU (mK BK925.out) hb); replace BK927 := yA (yU (mK BK927.out) hb); replace HB := yA (zD (by with_reducible repeat first | exact HB.out | apply yO | apply yN | apply yP | refine yQ ?_ GE925.out | refine yQ ?_ GE927.out) hb); clear hb ho132) | ((with_reducible refine gate_builtin (b := .append) (xs := #[.tmp 139, .tmp 140]) rfl ?_); at_builtin; refine Kd.R_append_rows (Kd.int .i64) (w0 := w) w.heap.size rfl (.tmp 139) (.tmp 140) 23 3 (.int .i64 0) 8 rfl Try.underlying23 info3 rfl (by decide) (by omega) v944 y943 l3 _ _ _ (fun _ => True) (fun _ => False) rfl rfl ?aO ?aR (fun _ _ h => h) (fun _ h => h.elim) ?aF ?aB ?aS ?aL ?_; (case aR => exact mC (yM HR3.out HB.out)); (case aB => exact (by with_reducible repeat first | exact HB.out | apply yO | apply yN | apply yP | refine yQ ?_ GE925.out | refine yQ ?_ GE927.out)); (case aF => exact (fun _ _ => trivial)); (case aO => exact (mR HO945.out)); (case aS => exact (yX (by with_reducible repeat first | exact HB.out | apply yO | apply yN | apply yP | refine yQ ?_ GE925.out | refine yQ ?_ GE927.out))); (case aL => have := LMc114.out; omega); intro v947 w133 ho hb hg hat; rw [← Ny946.out] at ho; replace BK925 := yA (blk_grown (g := gb925) (o := .cells #[.int .i64 a0_0, .slice A0_1 l0_1.length c0_1, .slice A0_2 l0_2.length c0_2] 32 (0, 0)) (mK BK925.out) hg (zW HO945.out BK925.out (by decide))); replace BK927 := yA (blk_grown (g := gb927) (o := .cells #[.int .i64 ((rd_T71 l1 a2).f0), .int .i64 ((rd_T71 l1 a2).f1), .int .i64 ((rd_T71 l1 a2).f2), .int .i64 ((rd_T71 l1 a2).f3)] 71 (0, 0)) (mK BK927.out) hg (zW HO945.out BK927.out (by decide))); replace HB := yA (hb); have HO948 := yA (ho); clear HO945; clear ho hb hg hat; have hnb134 := NB927_925.out; have hnc134 := NB925_927.out; have hcz135_0 : w133.cell? ⟨gb927, 0, none⟩ = some (.int .i64 ((rd_T71 l1 a2).f0)) := (yV BK927.out 0).trans rfl; have hcz135_1 : w133.cell? ⟨gb927, 1, none⟩ = some (.int .i64 ((rd_T71 l1 a2).f1)) := (yV BK927.out 1).trans rfl; have hcz135_2 : w133.cell? ⟨gb927, 2, none⟩ = some (.int .i64 ((rd_T71 l1 a2).f2)) := (yV BK927.out 2).trans rfl; have hcz135_3 : w133.cell? ⟨gb927, 3, none⟩ = some (.int .i64 ((rd_T71 l1 a2).f3)) := (yV BK927.out 3).trans rfl; have hfz135_0 := yW BK927.out 0; have hfz135_1 := yW BK927.out 1; have hfz135_2 := yW BK927.out 2; have hfz135_3 := yW BK927.out 3; have p117 : 0 ≤ (((rd_T71 l1 a2).f1) : Int) := zG (by assumption); have q117 : (((rd_T71 l1 a2).f1) : Int) < ((y946.length : Int) : Int) := zG (by assumption); obtain ⟨go117, co117, eo117, gb117, gl117, cl117, HG117⟩ := Kd.R_form HO948.out (by omega); (first | cases eo117 | (injection eo117 with ea_ en_ ec_; (first | subst ea_ | (injection ea_ with ea_; subst ea_)); subst ec_; clear en_)); have GB117 := yA gb117; have GG117 := yA HG117; clear gb117 gl117 HG117; obtain ⟨hx117_0, hf117_0⟩ := Kd.R_celln 0 HO948.out (((rd_T71 l1 a2).f1) : Int) p117 q117; replace p117 := eq_true p117; replace q117 := eq_true q117; obtain ⟨hy136_, hz136_⟩ := Kd.R_celln 0 HO948.out (((rd_T71 l1 a2).f1) : Int) (zG (by assumption)) (zG (by assumption)); have HP136 := Kd.R_putg HO948.out (((rd_T71 l1 a2).f1) : Int) x12_1) | ((with_reducible refine gate_store (t := 3) (p := 146) rfl ?_); refine store_event (t := 3) (p := 146) (v := ?vo_w137) (w1 := (w133.setCell ⟨go117, (((rd_T71 l1 a2).f1) : Int).toNat, none⟩ (.int .i64 x12_1))) ?hg ?ho ?hn ?hr ?_; (case ho => rfl); (case hg => rfl); (case hn => rfl); (case hr => first | (go_simp; done) | (go_simp; rfl)); intro w137 hw; have hg : w133.grownBy w137 (some go117) := (by rw [hw]; exact HP136.2); have hp_ : Kd.R (Kd.int .i64) 3 w137 w.heap.size (fun _ => True) (.slice (some ⟨go117, 0, none⟩) y946.length co117) y949 := (by rw [hw, Ny949.out]; exact HP136.1); clear HP136; replace BK925 := yA (blk_grown (g := gb925) (o := .cells #[.int .i64 a0_0, .slice A0_1 l0_1.length c0_1, .slice A0_2 l0_2.length c0_2] 32 (0, 0)) (mK BK925.out) hg (zW HO948.out BK925.out (by decide))); replace BK927 := yA (blk_grown (g := gb927) (o := .cells #[.int .i64 ((rd_T71 l1 a2).f0), .int .i64 ((rd_T71 l1 a2).f1), .int .i64 ((rd_T71 l1 a2).f2), .int .i64 ((rd_T71 l1 a2).f3)] 71 (0, 0)) (mK BK927.out) hg (zW HO948.out BK927.out (by decide))); replace HO948 := yA (hp_); replace HB := yA ((by rw [hw]; exact yQ (HB.out) GB117.out : Below w.heap.size w w137)); clear hg hw hp_; have hcz138_0 : w137.cell? ⟨gb925, 0, none⟩ = some (.int .i64 a0_0) := (yV BK925.out 0).trans rfl; have hcz138_1 : w137.cell? ⟨gb925, 1, none⟩ = some (.slice A0_1 l0_1.length c0_1) := (yV BK925.out 1).trans rfl; have hcz138_2 : w137.cell? ⟨gb925, 2, none⟩ = some (.slice A0_2 l0_2.length c0_2) := (yV BK925.out 2).trans rfl; have hfz138_0 := yW BK925.out 0; have hfz138_1 := yW BK925.out 1; have hfz138_2 := yW BK925.out 2; have hcz139_0 : w137.cell? ⟨gb927, 0, none⟩ = some (.int .i64 ((rd_T71 l1 a2).f0)) := (yV BK927.out 0).trans rfl; have hcz139_1 : w137.cell? ⟨gb927, 1, none⟩ = some (.int .i64 ((rd_T71 l1 a2).f1)) := (yV BK927.out 1).trans rfl; have hcz139_2 : w137.cell? ⟨gb927, 2, none⟩ = some (.int .i64 ((rd_T71 l1 a2).f2)) := (yV BK927.out 2).trans rfl; have hcz139_3 : w137.cell? ⟨gb927, 3, none⟩ = some (.int .i64 ((rd_T71 l1 a2).f3)) := (yV BK927.out 3).trans rfl; have hfz139_0 := yW BK927.out 0; have hfz139_1 := yW BK927.out 1; have hfz139_2 := yW BK927.out 2; have hfz139_3 := yW BK927.out 3) | ((with_reducible refine zS (f := 96) rfl ?_); refine goesL_ (some 153) rfl rfl Try.func96 (by kernel_rfl) rfl #[.agg #[.int .i64 a0_0, .slice A0_1 l0_1.length c0_1, .slice A0_2 l0_2.length c0_2], .slice (some ad926) l1.length c1, .int .i64 ((rd_T71 l1 a2).f2), .slice (some ⟨go117, 0, none⟩) y949.length co117, .int .i64 a4] rfl (by (try simp only [zI, zJ, zK]); first | done | (rw [show y949.length = y946.length from (zN HO948.out).1.symm] <;> rfl) | rfl | (simp only [zL, zM]; rfl)) ?_; (with_reducible refine (ih k1 (by have := HK1.out; omega) a0_0 _ _ l0_1 _ _ l0_2 _ _ l1 ((rd_T71 l1 a2).f2) _ _ y949 a4 t950 _ ?side1 ?side2 ?side3 ?side4 ?side5 ?side6 ?side7 ?side8 A118.out).mono ?_); (case side1 => exact mC (yM HR0_1.out HB.out)); (case side2 => exact HC0_1.out); (case side3 => exact mC (yM HR0_2.out HB.out)); (case side4 => exact HC0_2.out); (case side5 => exact mC (yM HR1.out HB.out)); (case side6 => exact HC1.out); (case side7 => exact mC ((zN HO948.out).2.2)); (case side8 => rw [show y949.length = y946.length from (zN HO948.out).1.symm]; exact (zN HO948.out).2.1); rintro e w140 ⟨rfl, hb⟩; refine ⟨_, rfl, ?_⟩; replace HO948 := yA (yK (mR HO948.out) hb); replace BK925 := yA (yU (mK BK925.out) hb); replace BK927 := yA (yU (mK BK927.out) hb); replace HB := yA (zD (by with_reducible repeat first | exact HB.out | apply yO | apply yN | apply yP | refine yQ ?_ GE925.out | refine yQ ?_ GE927.out) hb); (try clear hb); (try clear hb2); (try clear hk); (try clear hi); have hcz141_0 : w140.cell? ⟨gb927, 0, none⟩ = some (.int .i64 ((rd_T71 l1 a2).f0)) := (yV BK927.out 0).trans rfl; have hcz141_1 : w140.cell? ⟨gb927, 1, none⟩ = some (.int .i64 ((rd_T71 l1 a2).f1)) := (yV BK927.out 1).trans rfl; have hcz141_2 : w140.cell? ⟨gb927, 2, none⟩ = some (.int .i64 ((rd_T71 l1 a2).f2)) := (yV BK927.out 2).trans rfl; have hcz141_3 : w140.cell? ⟨gb927, 3, none⟩ = some (.int .i64 ((rd_T71 l1 a2).f3)) := (yV BK927.out 3).trans rfl; have hfz141_0 := yW BK927.out 0; have hfz141_1 := yW BK927.out 1; have hfz141_2 := yW BK927.out 2; have hfz141_3 := yW BK927.out 3))
             go_roundg k1
             case measure => have := HK1.out; omega
             case rel => exact ⟨(wrap64 (x12_1 + 1)), (by first | rfl | (simp; done) | (simp [*]; done)), H', ⟨by have := HK1.out; omega⟩, ⟨mK BK925.out⟩, ⟨mK BK927.out⟩, ⟨by repeat (first | (with_reducible first | exact HB.out | apply yO | apply yN | apply yP | refine yQ ?_ GE925.out | refine yQ ?_ GE927.out) | exact HB.out)⟩⟩
           ·rw [if_neg c113] at H
            have c113b0 : decide (x12_1 ≤ a4) = false := decide_eq_false c113
            clear c113
            obtain rfl := zU H
            have hnb142 := NB927_925.out
            have hnc142 := NB925_927.out
            obtain ⟨hcz143_0, hcz143_1, hcz143_2, hcz143_3⟩ := cz4 BK927.out
            obtain ⟨hfz143_0, hfz143_1, hfz143_2, hfz143_3⟩ := fz4 BK927.out
            go_wp2
            go_ret
            exact ⟨by first | rfl | (simp [errW_none, errW_some] <;> rfl) | (simp [*, errW_none, errW_some] <;> rfl), by repeat (first | (with_reducible first | exact HB.out | apply yO | apply yN | apply yP | refine yQ ?_ GE925.out | refine yQ ?_ GE927.out) | exact HB.out)⟩

end Go.Proofs.Ytmkeicahnnlalaa.Q
