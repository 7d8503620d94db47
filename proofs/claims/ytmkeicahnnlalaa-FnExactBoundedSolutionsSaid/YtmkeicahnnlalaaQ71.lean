-- written by a program of this session
-- squeezed
-- compact
-- shrunk
import Derived.Test.YtmkeicahnnlalaaQ0
import Derived.Test.YtmkeicahnnlalaaQ68
namespace Go.Proofs.Ytmkeicahnnlalaa.Q
open Go.RowKit Go.Proofs.YtmkeicahnnlalaaW.PrintWords Go.Proofs.YtmkeicahnnlalaaW.PrintLast Go.Proofs.YtmkeicahnnlalaaW.PrintMore
attribute [local go_sem] max2_int min2_int max_two min_two max_three min_three max_four min_four
set_option linter.unusedVariables false
set_option linter.unusedSimpArgs false

/-! ### spec_l16Depth: function 118 -/
mutual
def spec_l16Depth.l0 : Nat → List (S71) → Int → Int → List Int → Int → Option (Int)
 | 0, _, _, _, _, _ => none
 | k + 1, x0, x1, x5, x6, x7 => if x7 < (x6.length : Int) then (if 0 ≤ x7 then ((spec_l16Depth.f k x0 (rd x6 x7)).bind fun t890 => (spec_l16Depth.l0 k x0 x1 (mx x5 t890) x6 (wrap64 (x7 + 1)))) else (none)) else (if 0 ≤ x1 then (if x1 < (x0.length : Int) then (if ((rd_T71 x0 x1).f0) = 9 then (some (wrap64 (x5 + 1))) else (if ((rd_T71 x0 x1).f0) = 10 then (some (wrap64 (x5 + 1))) else (some x5))) else (none)) else (none))
def spec_l16Depth.f : Nat → List (S71) → Int → Option (Int)
 | 0, _, _ => none
 | k + 1, l0, a1 => if 0 ≤ a1 then (if a1 < (l0.length : Int) then ((spec_l16Kids.f k ((rd_T71 l0 a1).f0) ((rd_T71 l0 a1).f1) ((rd_T71 l0 a1).f2) ((rd_T71 l0 a1).f3)).bind fun t886 => (spec_l16Depth.l0 k l0 a1 0 t886 0)) else (none)) else (none)
end
theorem spec_l16Depth.mono_l : ∀ k, (∀ y0 y1, LeO (spec_l16Depth.f k y0 y1) (spec_l16Depth.f (k + 1) y0 y1)) ∧ (∀ y0 y1 y2 y3 y4, LeO (spec_l16Depth.l0 k y0 y1 y2 y3 y4) (spec_l16Depth.l0 (k + 1) y0 y1 y2 y3 y4))
 | 0 => ⟨fun _ _ r h => by simp [spec_l16Depth.f] at h, fun _ _ _ _ _ r h => by simp [spec_l16Depth.l0] at h⟩
 | k + 1 => by
  obtain ⟨ih0, ih1⟩ := spec_l16Depth.mono_l k
  refine ⟨?_, ?_⟩ <;> intros <;> first | unfold spec_l16Depth.f | unfold spec_l16Depth.l0
  all_goals repeat' (with_reducible first | exact ih0 _ _ | exact ih1 _ _ _ _ _ | exact spec_l16Kids.mono _ _ _ _ _ | exact LeO.refl _ | exact LeO.none _ | refine LeO.ite ?_ ?_ | refine LeO.bind ?_ fun _ => ?_)
theorem spec_l16Depth.mono : ∀ a0 a1 k, LeO (spec_l16Depth.f k a0 a1) (spec_l16Depth.f (k + 1) a0 a1) := by
 intro a0 a1 k
 obtain ⟨ih0, ih1⟩ := spec_l16Depth.mono_l k
 exact ih0 a0 a1
set_option maxHeartbeats 8000000 in
set_option maxRecDepth 100000 in
theorem spec_l16Depth.calls (k : Nat) : ∀ (A0 : Option Addr) (c0 : Nat) (l0 : List (S71)) (a1 : Int) (r : Int) (w : World) (hr0 : Kd.C k71 w A0 l0.length l0) (hc0 : l0.length ≤ c0) (h : spec_l16Depth.f k l0 a1 = some r),
  Calls Try.prog 118 #[.slice A0 l0.length c0, .int .i64 a1] w fun e w' => e = .returned (.int .i64 r) ∧ Below w.heap.size w w' := by
 induction k using Nat.strongRecOn with
 | _ k ih =>
 intro A0 c0 l0 a1 r w hr0 hc0 h
 cases k with
 | zero => exact absurd h (by simp [spec_l16Depth.f])
 | succ k =>
 simp only [spec_l16Depth.f] at h
 have hu71 := Try.underlying71
 have HR0 := yA hr0
 have HC0 := yA hc0
 clear hr0 hc0
 have HB := yA (zV w.heap.size w)
 have H : (if 0 ≤ a1 then (if a1 < (l0.length : Int) then ((spec_l16Kids.f k ((rd_T71 l0 a1).f0) ((rd_T71 l0 a1).f1) ((rd_T71 l0 a1).f2) ((rd_T71 l0 a1).f3)).bind fun t886 => (spec_l16Depth.l0 k l0 a1 0 t886 0)) else (none)) else (none)) = some r := h
 clear h
 obtain ⟨c3, H⟩ := iP H
 have c3b0 : decide (0 ≤ a1) = true := zH c3
 clear c3
 obtain ⟨c4, H⟩ := iP H
 have c4b0 : decide (a1 < (l0.length : Int)) = true := zH c4
 clear c4
 obtain ⟨t886, A5, H⟩ := bE H
 have H' := yA H
 clear H
 have p885 : 0 ≤ (a1 : Int) := zG (by assumption)
 have q885 : a1 < (l0.length : Int) := zG (by assumption)
 obtain ⟨ad885, e885, hx885_0, hx885_1, hx885_2, hx885_3⟩ := at_T71 HR0.out a1 p885 q885
 cases e885
 replace p885 := eq_true p885
 replace q885 := eq_true q885
 go_enter Try.func118, Try.ntmps118
 go_wp2_with (first | ((with_reducible refine zS (f := 117) rfl ?_); refine goesL_ (some 12) rfl rfl Try.func117 (by kernel_rfl) rfl #[.agg #[.int .i64 ((rd_T71 l0 a1).f0), .int .i64 ((rd_T71 l0 a1).f1), .int .i64 ((rd_T71 l0 a1).f2), .int .i64 ((rd_T71 l0 a1).f3)]] rfl (by (try simp only [zI, zJ, zK]); first | done | rfl | (simp only [zL, zM]; rfl)) ?_; (with_reducible refine (spec_l16Kids.calls k ((rd_T71 l0 a1).f0) ((rd_T71 l0 a1).f1) ((rd_T71 l0 a1).f2) ((rd_T71 l0 a1).f3) t886 _ A5.out).mono ?_); rintro e w6 ⟨v887, rfl, ho0, hb⟩; refine ⟨_, rfl, ?_⟩; have HO888 := yA (Kd.R_lower ho0 (yX (mB HB.out))); replace HB := yA (zD (mB HB.out) hb); (try clear hb); (try clear hb2); (try clear hk); (try clear hi); (try clear ho0)))
 go_loopg [5, 7] k (fun kq v5 v7 w' => ∃ (x5_1 : Int) (x7_1 : Int), v5 = .int .i64 x5_1 ∧ v7 = .int .i64 x7_1 ∧ Aside0 (spec_l16Depth.l0 kq l0 a1 x5_1 t886 x7_1 = some r) ∧ Aside0 (kq ≤ k) ∧ Aside0 (Kd.R (Kd.int .i64) 3 w' w.heap.size (fun _ => True) v887 t886) ∧ Aside0 (Below w.heap.size w w'))
 case atStart => exact ⟨(0), (0), (by first | rfl | (simp; done) | (simp [*]; done)), (by first | rfl | (simp; done) | (simp [*]; done)), H', ⟨zT _⟩, ⟨mR HO888.out⟩, ⟨mB HB.out⟩⟩
 case round =>
  clear H'
  (try clear c1);(try clear p2);(try clear c3);(try clear c3b0);(try clear c4);(try clear c4b0);(try clear hx885_0);(try clear hx885_1);(try clear hx885_2);(try clear hx885_3);(try clear p885);(try clear q885)
  obtain ⟨x5_1, x7_1, rfl, rfl, HA, HK1, HO_6, HB⟩ := hrel
  cases gk with
  | zero => exact absurd HA.out (by simp [spec_l16Depth.l0])
  | succ k1 =>
   have H := HA.out
   clear HA
   simp only [spec_l16Depth.l0] at H
   by_cases c7 : x7_1 < (t886.length : Int)
   ·rw [if_pos c7] at H
    have c7b0 : decide (x7_1 < (t886.length : Int)) = true := zH c7
    clear c7
    obtain ⟨c8, H⟩ := iP H
    have c8b0 : decide (0 ≤ x7_1) = true := zH c8
    clear c8
    obtain ⟨t890, A9, H⟩ := bE H
    obtain ⟨ji10, hji10⟩ : ∃ j_ : Int, (mx x5_1 t890) = j_ := ⟨_, rfl⟩
    replace H : (spec_l16Depth.l0 k1 l0 a1 ji10 t886 (wrap64 (x7_1 + 1))) = some r := by first | (rw [hji10] at H; exact H) | (simp only [hji10] at H ⊢; exact H)
    (try rw [hji10] at A9)
    have hji10_ : (if x5_1 < t890 then t890 else x5_1) = ji10 := hji10
    have H' := yA H
    clear H
    obtain ⟨Ao11, co11, eo11⟩ := Kd.R_slice HO_6.out
    subst eo11
    have p889 : 0 ≤ (x7_1 : Int) := zG (by assumption)
    have q889 : x7_1 < (t886.length : Int) := zG (by assumption)
    obtain ⟨ad889, e889, hx889_0⟩ := Kd.at_int (zN HO_6.out).2.2 x7_1 p889 q889
    cases e889
    replace p889 := eq_true p889
    replace q889 := eq_true q889
    go_wp2_with (first | ((with_reducible refine zS (f := 118) rfl ?_); refine goesL_ (some 25) rfl rfl Try.func118 (by kernel_rfl) rfl #[.slice (some ad885) l0.length c0, .int .i64 (rd t886 x7_1)] rfl (by (try simp only [zI, zJ, zK]); first | done | rfl | (simp only [zL, zM]; rfl)) ?_; (with_reducible refine (ih k1 (by have := HK1.out; omega) _ _ l0 (rd t886 x7_1) t890 _ ?side1 ?side2 A9.out).mono ?_); (case side1 => exact mC (yM HR0.out HB.out)); (case side2 => exact HC0.out); rintro e w12 ⟨rfl, hb⟩; refine ⟨_, rfl, ?_⟩; replace HO_6 := yA (yK (mR HO_6.out) hb); replace HB := yA (zD (mB HB.out) hb); (try clear hb); (try clear hb2); (try clear hk); (try clear hi)))
    go_roundg k1
    case measure => have := HK1.out; omega
    case rel => exact ⟨(ji10), (wrap64 (x7_1 + 1)), (by first | rfl | (simp; done) | (simp only [← hji10] <;> (first | rfl | simp)) | (simp [*]; done)), (by first | rfl | (simp; done) | (simp [*]; done)), H', ⟨by have := HK1.out; omega⟩, ⟨mR HO_6.out⟩, ⟨mB HB.out⟩⟩
   ·rw [if_neg c7] at H
    have c7b0 : decide (x7_1 < (t886.length : Int)) = false := decide_eq_false c7
    clear c7
    obtain ⟨c13, H⟩ := iP H
    have c13b0 : decide (0 ≤ a1) = true := zH c13
    clear c13
    obtain ⟨c14, H⟩ := iP H
    have c14b0 : decide (a1 < (l0.length : Int)) = true := zH c14
    clear c14
    by_cases c15 : ((rd_T71 l0 a1).f0) = 9
    ·rw [if_pos c15] at H
     have c15b0 : (((rd_T71 l0 a1).f0) == 9) = true := beq_iff_eq.mpr c15
     have c15b1 : (((rd_T71 l0 a1).f0) != 9) = false := bne_eq_false_iff_eq.mpr c15
     clear c15
     obtain rfl := zU H
     obtain ⟨Ao16, co16, eo16⟩ := Kd.R_slice HO_6.out
     subst eo16
     have p891 : 0 ≤ (a1 : Int) := zG (by assumption)
     have q891 : a1 < (l0.length : Int) := zG (by assumption)
     obtain ⟨ad891, e891, hx891_0, hx891_1, hx891_2, hx891_3⟩ := at_T71 HR0.out a1 p891 q891
     obtain rfl : ad885 = ad891 := (by injection e891)
     try replace hx891_0 := (HB.out.cell (zE w _ hx891_0)).trans hx891_0
     try replace hx891_1 := (HB.out.cell (zE w _ hx891_1)).trans hx891_1
     try replace hx891_2 := (HB.out.cell (zE w _ hx891_2)).trans hx891_2
     try replace hx891_3 := (HB.out.cell (zE w _ hx891_3)).trans hx891_3
     replace p891 := eq_true p891
     replace q891 := eq_true q891
     go_wp2
     go_ret
     exact ⟨by first | rfl | (simp [errW_none, errW_some] <;> rfl) | (simp [*, errW_none, errW_some] <;> rfl), by repeat (first | (with_reducible first | exact HB.out | apply yO | apply yN | apply yP) | exact HB.out)⟩
    ·rw [if_neg c15] at H
     have c15b0 : (((rd_T71 l0 a1).f0) == 9) = false := beq_eq_false_iff_ne.mpr c15
     have c15b1 : (((rd_T71 l0 a1).f0) != 9) = true := bne_iff_ne.mpr c15
     by_cases c17 : ((rd_T71 l0 a1).f0) = 10
     ·rw [if_pos c17] at H
      have c17b0 : (((rd_T71 l0 a1).f0) == 10) = true := beq_iff_eq.mpr c17
      have c17b1 : (((rd_T71 l0 a1).f0) != 10) = false := bne_eq_false_iff_eq.mpr c17
      clear c17
      obtain rfl := zU H
      obtain ⟨Ao18, co18, eo18⟩ := Kd.R_slice HO_6.out
      subst eo18
      have p891 : 0 ≤ (a1 : Int) := zG (by assumption)
      have q891 : a1 < (l0.length : Int) := zG (by assumption)
      obtain ⟨ad891, e891, hx891_0, hx891_1, hx891_2, hx891_3⟩ := at_T71 HR0.out a1 p891 q891
      obtain rfl : ad885 = ad891 := (by injection e891)
      try replace hx891_0 := (HB.out.cell (zE w _ hx891_0)).trans hx891_0
      try replace hx891_1 := (HB.out.cell (zE w _ hx891_1)).trans hx891_1
      try replace hx891_2 := (HB.out.cell (zE w _ hx891_2)).trans hx891_2
      try replace hx891_3 := (HB.out.cell (zE w _ hx891_3)).trans hx891_3
      replace p891 := eq_true p891
      replace q891 := eq_true q891
      have p892 : 0 ≤ (a1 : Int) := zG (by assumption)
      have q892 : a1 < (l0.length : Int) := zG (by assumption)
      obtain ⟨ad892, e892, hx892_0, hx892_1, hx892_2, hx892_3⟩ := at_T71 HR0.out a1 p892 q892
      obtain rfl : ad885 = ad892 := (by injection e892)
      try replace hx892_0 := (HB.out.cell (zE w _ hx892_0)).trans hx892_0
      try replace hx892_1 := (HB.out.cell (zE w _ hx892_1)).trans hx892_1
      try replace hx892_2 := (HB.out.cell (zE w _ hx892_2)).trans hx892_2
      try replace hx892_3 := (HB.out.cell (zE w _ hx892_3)).trans hx892_3
      replace p892 := eq_true p892
      replace q892 := eq_true q892
      go_wp2
      go_ret
      exact ⟨by first | rfl | (simp [errW_none, errW_some] <;> rfl) | (simp [*, errW_none, errW_some] <;> rfl), by repeat (first | (with_reducible first | exact HB.out | apply yO | apply yN | apply yP) | exact HB.out)⟩
     ·rw [if_neg c17] at H
      have c17b0 : (((rd_T71 l0 a1).f0) == 10) = false := beq_eq_false_iff_ne.mpr c17
      have c17b1 : (((rd_T71 l0 a1).f0) != 10) = true := bne_iff_ne.mpr c17
      obtain rfl := zU H
      obtain ⟨Ao19, co19, eo19⟩ := Kd.R_slice HO_6.out
      subst eo19
      have p891 : 0 ≤ (a1 : Int) := zG (by assumption)
      have q891 : a1 < (l0.length : Int) := zG (by assumption)
      obtain ⟨ad891, e891, hx891_0, hx891_1, hx891_2, hx891_3⟩ := at_T71 HR0.out a1 p891 q891
      obtain rfl : ad885 = ad891 := (by injection e891)
      try replace hx891_0 := (HB.out.cell (zE w _ hx891_0)).trans hx891_0
      try replace hx891_1 := (HB.out.cell (zE w _ hx891_1)).trans hx891_1
      try replace hx891_2 := (HB.out.cell (zE w _ hx891_2)).trans hx891_2
      try replace hx891_3 := (HB.out.cell (zE w _ hx891_3)).trans hx891_3
      replace p891 := eq_true p891
      replace q891 := eq_true q891
      have p892 : 0 ≤ (a1 : Int) := zG (by assumption)
      have q892 : a1 < (l0.length : Int) := zG (by assumption)
      obtain ⟨ad892, e892, hx892_0, hx892_1, hx892_2, hx892_3⟩ := at_T71 HR0.out a1 p892 q892
      obtain rfl : ad885 = ad892 := (by injection e892)
      try replace hx892_0 := (HB.out.cell (zE w _ hx892_0)).trans hx892_0
      try replace hx892_1 := (HB.out.cell (zE w _ hx892_1)).trans hx892_1
      try replace hx892_2 := (HB.out.cell (zE w _ hx892_2)).trans hx892_2
      try replace hx892_3 := (HB.out.cell (zE w _ hx892_3)).trans hx892_3
      replace p892 := eq_true p892
      replace q892 := eq_true q892
      go_wp2
      go_ret
      exact ⟨by first | rfl | (simp [errW_none, errW_some] <;> rfl) | (simp [*, errW_none, errW_some] <;> rfl), by repeat (first | (with_reducible first | exact HB.out | apply yO | apply yN | apply yP) | exact HB.out)⟩

end Go.Proofs.Ytmkeicahnnlalaa.Q
