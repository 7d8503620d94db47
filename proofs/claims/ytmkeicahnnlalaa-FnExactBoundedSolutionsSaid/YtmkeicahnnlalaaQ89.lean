-- written by a program of this session
-- squeezed
-- compact
-- shrunk
import Derived.Test.YtmkeicahnnlalaaQ0
import Derived.Test.YtmkeicahnnlalaaQ53
import Derived.Test.YtmkeicahnnlalaaQ86
import Derived.Test.YtmkeicahnnlalaaQ88
namespace Go.Proofs.Ytmkeicahnnlalaa.Q
open Go.RowKit Go.Proofs.YtmkeicahnnlalaaW.PrintWords Go.Proofs.YtmkeicahnnlalaaW.PrintLast Go.Proofs.YtmkeicahnnlalaaW.PrintMore
attribute [local go_sem] max2_int min2_int max_two min_two max_three min_three max_four min_four
set_option linter.unusedVariables false
set_option linter.unusedSimpArgs false

/-! ### impl_depth: function 122 -/
mutual
def impl_depth.l0 : Nat → List (S71) → Int → Int → List Int → Int → Int → Option (Int)
 | 0, _, _, _, _, _, _ => none
 | k + 1, x0, x1, x5, x18, x19, x20 => if x20 < x19 then (if 0 ≤ x20 then (if x20 < (x18.length : Int) then ((impl_depth.f k x0 (rd x18 x20)).bind fun t1050 => (impl_depth.l0 k x0 x1 (mx x5 t1050) x18 x19 (wrap64 (x20 + 1)))) else (none)) else (none)) else (if 0 ≤ x1 then (if x1 < (x0.length : Int) then ((impl_Node_isQuantifier.f ((rd_T71 x0 x1).f0) ((rd_T71 x0 x1).f1) ((rd_T71 x0 x1).f2) ((rd_T71 x0 x1).f3)).bind fun t1052 => ((impl_oneIf.f t1052).bind fun t1053 => (some (wrap64 (x5 + t1053))))) else (none)) else (none))
def impl_depth.f : Nat → List (S71) → Int → Option (Int)
 | 0, _, _ => none
 | k + 1, l0, a1 => if 0 ≤ a1 then (if a1 < (l0.length : Int) then ((impl_Node_kids.f k ((rd_T71 l0 a1).f0) ((rd_T71 l0 a1).f1) ((rd_T71 l0 a1).f2) ((rd_T71 l0 a1).f3)).bind fun bt1045 => (impl_depth.l0 k l0 a1 0 bt1045.1 (bt1045.1.length : Int) 0)) else (none)) else (none)
end
theorem impl_depth.mono_l : ∀ k, (∀ y0 y1, LeO (impl_depth.f k y0 y1) (impl_depth.f (k + 1) y0 y1)) ∧ (∀ y0 y1 y2 y3 y4 y5, LeO (impl_depth.l0 k y0 y1 y2 y3 y4 y5) (impl_depth.l0 (k + 1) y0 y1 y2 y3 y4 y5))
 | 0 => ⟨fun _ _ r h => by simp [impl_depth.f] at h, fun _ _ _ _ _ _ r h => by simp [impl_depth.l0] at h⟩
 | k + 1 => by
  obtain ⟨ih0, ih1⟩ := impl_depth.mono_l k
  refine ⟨?_, ?_⟩ <;> intros <;> first | unfold impl_depth.f | unfold impl_depth.l0
  all_goals repeat' (with_reducible first | exact ih0 _ _ | exact ih1 _ _ _ _ _ _ | exact impl_Node_kids.mono _ _ _ _ _ | exact LeO.refl _ | exact LeO.none _ | refine LeO.ite ?_ ?_ | refine LeO.bind ?_ fun _ => ?_)
theorem impl_depth.mono : ∀ a0 a1 k, LeO (impl_depth.f k a0 a1) (impl_depth.f (k + 1) a0 a1) := by
 intro a0 a1 k
 obtain ⟨ih0, ih1⟩ := impl_depth.mono_l k
 exact ih0 a0 a1
set_option maxHeartbeats 8000000 in
set_option maxRecDepth 100000 in
theorem impl_depth.calls (k : Nat) : ∀ (A0 : Option Addr) (c0 : Nat) (l0 : List (S71)) (a1 : Int) (r : Int) (w : World) (hr0 : Kd.C k71 w A0 l0.length l0) (hc0 : l0.length ≤ c0) (h : impl_depth.f k l0 a1 = some r),
  Calls Try.prog 122 #[.slice A0 l0.length c0, .int .i64 a1] w fun e w' => e = .returned (.int .i64 r) ∧ Below w.heap.size w w' := by
 induction k using Nat.strongRecOn with
 | _ k ih =>
 intro A0 c0 l0 a1 r w hr0 hc0 h
 cases k with
 | zero => exact absurd h (by simp [impl_depth.f])
 | succ k =>
 simp only [impl_depth.f] at h
 have hu71 := Try.underlying71
 have HR0 := yA hr0
 have HC0 := yA hc0
 clear hr0 hc0
 have HB := yA (zV w.heap.size w)
 have H : (if 0 ≤ a1 then (if a1 < (l0.length : Int) then ((impl_Node_kids.f k ((rd_T71 l0 a1).f0) ((rd_T71 l0 a1).f1) ((rd_T71 l0 a1).f2) ((rd_T71 l0 a1).f3)).bind fun bt1045 => (impl_depth.l0 k l0 a1 0 bt1045.1 (bt1045.1.length : Int) 0)) else (none)) else (none)) = some r := h
 clear h
 obtain ⟨c3, H⟩ := iP H
 have c3b0 : decide (0 ≤ a1) = true := zH c3
 clear c3
 obtain ⟨c4, H⟩ := iP H
 have c4b0 : decide (a1 < (l0.length : Int)) = true := zH c4
 clear c4
 replace H := Option.bind_eq_some_iff.mp H
 obtain ⟨⟨t1045, t1048⟩, A50, H⟩ := H
 replace H : (impl_depth.l0 k l0 a1 0 t1045 (t1045.length : Int) 0) = some r := H
 have A5 := yA A50
 clear A50
 have H' := yA H
 clear H
 have p1044 : 0 ≤ (a1 : Int) := zG (by assumption)
 have q1044 : a1 < (l0.length : Int) := zG (by assumption)
 obtain ⟨ad1044, e1044, hx1044_0, hx1044_1, hx1044_2, hx1044_3⟩ := at_T71 HR0.out a1 p1044 q1044
 cases e1044
 replace p1044 := eq_true p1044
 replace q1044 := eq_true q1044
 go_enter Try.func122, Try.ntmps122
 go_wp2_with (first | ((with_reducible refine zS (f := 121) rfl ?_); refine goesL_ (some 15) rfl rfl Try.func121 (by kernel_rfl) rfl #[.agg #[.int .i64 ((rd_T71 l0 a1).f0), .int .i64 ((rd_T71 l0 a1).f1), .int .i64 ((rd_T71 l0 a1).f2), .int .i64 ((rd_T71 l0 a1).f3)]] rfl (by (try simp only [zI, zJ, zK]); first | done | rfl | (simp only [zL, zM]; rfl)) ?_; (with_reducible refine (impl_Node_kids.calls k ((rd_T71 l0 a1).f0) ((rd_T71 l0 a1).f1) ((rd_T71 l0 a1).f2) ((rd_T71 l0 a1).f3) t1045 t1048 _ A5.out).mono ?_); rintro e w6 ⟨v1046, rfl, ho0, hb⟩; refine ⟨_, rfl, ?_⟩; have HO1047 := yA (Kd.R_lower ho0 (yX (mB HB.out))); replace HB := yA (zD (mB HB.out) hb); (try clear hb); (try clear hb2); (try clear hk); (try clear hi); (try clear ho0); obtain ⟨Ao7, co7, eo7⟩ := Kd.R_slice HO1047.out; subst eo7))
 go_loopg [5, 20] k (fun kq v5 v20 w' => ∃ (x5_1 : Int) (x20_1 : Int), v5 = .int .i64 x5_1 ∧ v20 = .int .i64 x20_1 ∧ Aside0 (impl_depth.l0 kq l0 a1 x5_1 t1045 (t1045.length : Int) x20_1 = some r) ∧ Aside0 (kq ≤ k) ∧ Aside0 (Kd.R (Kd.int .i64) 3 w' w.heap.size (fun _ => True) (.slice Ao7 t1045.length co7) t1045) ∧ Aside0 (Below w.heap.size w w'))
 case atStart => exact ⟨(0), (0), (by first | rfl | (simp; done) | (simp [*]; done)), (by first | rfl | (simp; done) | (simp [*]; done)), H', ⟨zT _⟩, ⟨mR HO1047.out⟩, ⟨mB HB.out⟩⟩
 case round =>
  clear H'
  (try clear c1);(try clear p1);(try clear q1);(try clear hx1);(try clear p2);(try clear c3);(try clear c3b0);(try clear c4);(try clear c4b0);(try clear hx1044_0);(try clear hx1044_1);(try clear hx1044_2);(try clear hx1044_3);(try clear p1044);(try clear q1044)
  obtain ⟨x5_1, x20_1, rfl, rfl, HA, HK1, HO_18, HB⟩ := hrel
  cases gk with
  | zero => exact absurd HA.out (by simp [impl_depth.l0])
  | succ k1 =>
   have H := HA.out
   clear HA
   simp only [impl_depth.l0] at H
   by_cases c8 : x20_1 < (t1045.length : Int)
   ·rw [if_pos c8] at H
    have c8b0 : decide (x20_1 < (t1045.length : Int)) = true := zH c8
    clear c8
    obtain ⟨c9, H⟩ := iP H
    have c9b0 : decide (0 ≤ x20_1) = true := zH c9
    clear c9
    obtain ⟨c10, H⟩ := iP H
    have c10b0 : decide (x20_1 < (t1045.length : Int)) = true := zH c10
    clear c10
    obtain ⟨t1050, A11, H⟩ := bE H
    obtain ⟨ji12, hji12⟩ : ∃ j_ : Int, (mx x5_1 t1050) = j_ := ⟨_, rfl⟩
    replace H : (impl_depth.l0 k1 l0 a1 ji12 t1045 (t1045.length : Int) (wrap64 (x20_1 + 1))) = some r := by first | (rw [hji12] at H; exact H) | (simp only [hji12] at H ⊢; exact H)
    (try rw [hji12] at A11)
    have hji12_ : (if x5_1 < t1050 then t1050 else x5_1) = ji12 := hji12
    have H' := yA H
    clear H
    have p1049 : 0 ≤ (x20_1 : Int) := zG (by assumption)
    have q1049 : x20_1 < (t1045.length : Int) := zG (by assumption)
    obtain ⟨ad1049, e1049, hx1049_0⟩ := Kd.at_int (zN HO_18.out).2.2 x20_1 p1049 q1049
    cases e1049
    replace p1049 := eq_true p1049
    replace q1049 := eq_true q1049
    go_wp2_with (first | ((with_reducible refine zS (f := 122) rfl ?_); refine goesL_ (some 27) rfl rfl Try.func122 (by kernel_rfl) rfl #[.slice (some ad1044) l0.length c0, .int .i64 (rd t1045 x20_1)] rfl (by (try simp only [zI, zJ, zK]); first | done | rfl | (simp only [zL, zM]; rfl)) ?_; (with_reducible refine (ih k1 (by have := HK1.out; omega) _ _ l0 (rd t1045 x20_1) t1050 _ ?side1 ?side2 A11.out).mono ?_); (case side1 => exact mC (yM HR0.out HB.out)); (case side2 => exact HC0.out); rintro e w13 ⟨rfl, hb⟩; refine ⟨_, rfl, ?_⟩; replace HO_18 := yA (yK (mR HO_18.out) hb); replace HB := yA (zD (mB HB.out) hb); (try clear hb); (try clear hb2); (try clear hk); (try clear hi)))
    go_roundg k1
    case measure => have := HK1.out; omega
    case rel => exact ⟨(ji12), (wrap64 (x20_1 + 1)), (by first | rfl | (simp; done) | (simp only [← hji12] <;> (first | rfl | simp)) | (simp [*]; done)), (by first | rfl | (simp; done) | (simp [*]; done)), H', ⟨by have := HK1.out; omega⟩, ⟨mR HO_18.out⟩, ⟨mB HB.out⟩⟩
   ·rw [if_neg c8] at H
    have c8b0 : decide (x20_1 < (t1045.length : Int)) = false := decide_eq_false c8
    clear c8
    obtain ⟨c14, H⟩ := iP H
    have c14b0 : decide (0 ≤ a1) = true := zH c14
    clear c14
    obtain ⟨c15, H⟩ := iP H
    have c15b0 : decide (a1 < (l0.length : Int)) = true := zH c15
    clear c15
    obtain ⟨t1052, A16, H⟩ := bE H
    obtain ⟨t1053, A17, H⟩ := bE H
    obtain rfl := zU H
    have p1051 : 0 ≤ (a1 : Int) := zG (by assumption)
    have q1051 : a1 < (l0.length : Int) := zG (by assumption)
    obtain ⟨ad1051, e1051, hx1051_0, hx1051_1, hx1051_2, hx1051_3⟩ := at_T71 HR0.out a1 p1051 q1051
    obtain rfl : ad1044 = ad1051 := (by injection e1051)
    try replace hx1051_0 := (HB.out.cell (zE w _ hx1051_0)).trans hx1051_0
    try replace hx1051_1 := (HB.out.cell (zE w _ hx1051_1)).trans hx1051_1
    try replace hx1051_2 := (HB.out.cell (zE w _ hx1051_2)).trans hx1051_2
    try replace hx1051_3 := (HB.out.cell (zE w _ hx1051_3)).trans hx1051_3
    replace p1051 := eq_true p1051
    replace q1051 := eq_true q1051
    go_wp2_with (first | ((with_reducible refine zS (f := 131) rfl ?_); refine goesL_ (some 35) rfl rfl Try.func131 (by kernel_rfl) rfl #[.agg #[.int .i64 ((rd_T71 l0 a1).f0), .int .i64 ((rd_T71 l0 a1).f1), .int .i64 ((rd_T71 l0 a1).f2), .int .i64 ((rd_T71 l0 a1).f3)]] rfl (by (try simp only [zI, zJ, zK]); first | done | rfl | (simp only [zL, zM]; rfl)) ?_; (with_reducible refine (impl_Node_isQuantifier.calls ((rd_T71 l0 a1).f0) ((rd_T71 l0 a1).f1) ((rd_T71 l0 a1).f2) ((rd_T71 l0 a1).f3) t1052 _ A16.out).mono ?_); rintro e w18 ⟨rfl, hb⟩; refine ⟨_, rfl, ?_⟩; replace HO_18 := yA (yK (mR HO_18.out) hb); replace HB := yA (zD (mB HB.out) hb); (try clear hb); (try clear hb2); (try clear hk); (try clear hi)) | ((with_reducible refine zS (f := 64) rfl ?_); refine goesL_ (some 36) rfl rfl Try.func64 (by kernel_rfl) rfl #[.bool t1052] rfl (by (try simp only [zI, zJ, zK]); first | done | rfl | (simp only [zL, zM]; rfl)) ?_; (with_reducible refine (impl_oneIf.calls t1052 t1053 _ A17.out).mono ?_); rintro e w' ⟨rfl, ⟨nd, rfl⟩⟩; refine ⟨_, rfl, ?_⟩))
    go_ret
    exact ⟨by first | rfl | (simp [errW_none, errW_some] <;> rfl) | (simp [*, errW_none, errW_some] <;> rfl), by repeat (first | (with_reducible first | exact HB.out | apply yO | apply yN | apply yP) | exact HB.out)⟩

end Go.Proofs.Ytmkeicahnnlalaa.Q
