-- written by a program of this session (a turned copy of the kit's print) out of the translation
-- squeezed
-- compact
import Derived.Test.YtdckaflfgbbabaaQ0
import Derived.Test.YtdckaflfgbbabaaQ5
import Derived.Test.YtdckaflfgbbabaaQ6
import Derived.Test.YtdckaflfgbbabaaQ16
namespace Go.Proofs.Ytdckaflfgbbabaa.Q
open Go.RowKit Go.Proofs.YtdckaflfgbbabaaW.PrintWords Go.Proofs.YtdckaflfgbbabaaW.PrintLast Go.Proofs.YtdckaflfgbbabaaW.PrintMore
attribute [local go_sem] max2_int min2_int max_two min_two max_three min_three max_four min_four   -- for this text's walks alone
set_option linter.unusedVariables false
set_option linter.unusedSimpArgs false

/-! ### impl_depth: function 55 -/
mutual
def impl_depth.l0 : Nat → List (S48) → Int → Int → List Int → Int → Int → Option (Int)
 | 0, _, _, _, _, _, _ => none
 | k + 1, x0, x1, x5, x18, x19, x20 => if x20 < x19 then (if 0 ≤ x20 then (if x20 < (x18.length : Int) then ((impl_depth.f k x0 (rd x18 x20)).bind fun t292 => (impl_depth.l0 k x0 x1 (mx x5 t292) x18 x19 (wrap64 (x20 + 1)))) else (none)) else (none)) else (if 0 ≤ x1 then (if x1 < (x0.length : Int) then ((impl_Node_isQuantifier.f ((rd_T48 x0 x1).f0) ((rd_T48 x0 x1).f1) ((rd_T48 x0 x1).f2) ((rd_T48 x0 x1).f3)).bind fun t294 => ((impl_oneIf.f t294).bind fun t295 => (some (wrap64 (x5 + t295))))) else (none)) else (none))
def impl_depth.f : Nat → List (S48) → Int → Option (Int)
 | 0, _, _ => none
 | k + 1, l0, a1 => if 0 ≤ a1 then (if a1 < (l0.length : Int) then ((impl_Node_kids.f k ((rd_T48 l0 a1).f0) ((rd_T48 l0 a1).f1) ((rd_T48 l0 a1).f2) ((rd_T48 l0 a1).f3)).bind fun bt287 => (impl_depth.l0 k l0 a1 0 bt287.1 (bt287.1.length : Int) 0)) else (none)) else (none)
end
theorem impl_depth.mono_l : ∀ k, (∀ y0 y1, LeO (impl_depth.f k y0 y1) (impl_depth.f (k + 1) y0 y1)) ∧ (∀ y0 y1 y2 y3 y4 y5, LeO (impl_depth.l0 k y0 y1 y2 y3 y4 y5) (impl_depth.l0 (k + 1) y0 y1 y2 y3 y4 y5))
 | 0 => ⟨fun _ _ r h => by simp [impl_depth.f] at h, fun _ _ _ _ _ _ r h => by simp [impl_depth.l0] at h⟩
 | k + 1 => by
  obtain ⟨ih0, ih1⟩ := impl_depth.mono_l k; refine ⟨?_, ?_⟩
  ·intro y0 y1; unfold impl_depth.f
   repeat' first
   | (with_reducible exact ih0 _ _)
   | (with_reducible exact ih1 _ _ _ _ _ _)
   | (with_reducible exact impl_Node_kids.mono _ _ _ _ _)
   | (with_reducible exact LeO.refl _)
   | (with_reducible exact LeO.none _)
   | (with_reducible refine LeO.ite ?_ ?_)
   | (with_reducible refine LeO.bind ?_ (fun _ => ?_))
   | exact ih0 _ _
   | exact ih1 _ _ _ _ _ _
   | exact impl_Node_kids.mono _ _ _ _ _
   | exact LeO.none _
   | refine LeO.ite ?_ ?_
   | refine LeO.bind ?_ (fun _ => ?_)
  ·intro y0 y1 y2 y3 y4 y5; unfold impl_depth.l0
   repeat' first
   | (with_reducible exact ih0 _ _)
   | (with_reducible exact ih1 _ _ _ _ _ _)
   | (with_reducible exact impl_Node_kids.mono _ _ _ _ _)
   | (with_reducible exact LeO.refl _)
   | (with_reducible exact LeO.none _)
   | (with_reducible refine LeO.ite ?_ ?_)
   | (with_reducible refine LeO.bind ?_ (fun _ => ?_))
   | exact ih0 _ _
   | exact ih1 _ _ _ _ _ _
   | exact impl_Node_kids.mono _ _ _ _ _
   | exact LeO.none _
   | refine LeO.ite ?_ ?_
   | refine LeO.bind ?_ (fun _ => ?_)
theorem impl_depth.mono : ∀ a0 a1 k, LeO (impl_depth.f k a0 a1) (impl_depth.f (k + 1) a0 a1) := by
 intro a0 a1 k; obtain ⟨ih0, ih1⟩ := impl_depth.mono_l k; exact ih0 a0 a1
set_option maxHeartbeats 8000000 in
set_option maxRecDepth 100000 in
theorem impl_depth.calls (k : Nat) : ∀ (A0 : Option Addr) (c0 : Nat) (l0 : List (S48)) (a1 : Int) (r : Int) (w : World) (hr0 : Kd.C k48 w A0 l0.length l0) (hc0 : l0.length ≤ c0) (h : impl_depth.f k l0 a1 = some r),
  Calls Try.prog 55 #[.slice A0 l0.length c0, .int .i64 a1] w fun e w' => e = .returned (.int .i64 r) ∧ Below w.heap.size w w' := by
 induction k using Nat.strongRecOn with
 | _ k ih =>
 intro A0 c0 l0 a1 r w hr0 hc0 h; cases k with
 | zero => exact absurd h (by simp [impl_depth.f])
 | succ k =>
 simp only [impl_depth.f] at h; have hu48 := Try.underlying48; have HR0 := yA hr0; have HC0 := yA hc0; clear hr0 hc0; have HB := yA (zV w.heap.size w); have H : (if 0 ≤ a1 then (if a1 < (l0.length : Int) then ((impl_Node_kids.f k ((rd_T48 l0 a1).f0) ((rd_T48 l0 a1).f1) ((rd_T48 l0 a1).f2) ((rd_T48 l0 a1).f3)).bind fun bt287 => (impl_depth.l0 k l0 a1 0 bt287.1 (bt287.1.length : Int) 0)) else (none)) else (none)) = some r := h; clear h; by_cases c3 : 0 ≤ a1
 ·rw [if_pos c3] at H; have c3b0 : decide (0 ≤ a1) = true := zH c3; clear c3; by_cases c4 : a1 < (l0.length : Int)
  ·rw [if_pos c4] at H; have c4b0 : decide (a1 < (l0.length : Int)) = true := zH c4; clear c4; replace H := Option.bind_eq_some_iff.mp H; obtain ⟨⟨t287, t290⟩, A50, H⟩ := H; replace H : (impl_depth.l0 k l0 a1 0 t287 (t287.length : Int) 0) = some r := H; have A5 := yA A50; clear A50; have H' := yA H; clear H; have p286 : 0 ≤ (a1 : Int) := zG (by first | (with_reducible assumption) | assumption); have q286 : a1 < (l0.length : Int) := zG (by first | (with_reducible assumption) | assumption); obtain ⟨ad286, e286, hx286_0, hx286_1, hx286_2, hx286_3⟩ := at_T48 HR0.out a1 p286 q286; cases e286; replace p286 := eq_true p286; replace q286 := eq_true q286; go_enter Try.func55, Try.ntmps55; go_wp2_with (first | ((with_reducible refine zS (f := 52) rfl ?_); refine goesL_ (some 15) rfl rfl Try.func52 (by kernel_rfl) rfl #[.agg #[.int .i64 ((rd_T48 l0 a1).f0), .int .i64 ((rd_T48 l0 a1).f1), .int .i64 ((rd_T48 l0 a1).f2), .int .i64 ((rd_T48 l0 a1).f3)]] rfl (by (try simp only [zI, zJ, zK]); first | done | rfl | (simp only [zL, zM]; rfl)) ?_; (with_reducible refine (impl_Node_kids.calls k ((rd_T48 l0 a1).f0) ((rd_T48 l0 a1).f1) ((rd_T48 l0 a1).f2) ((rd_T48 l0 a1).f3) t287 t290 _ A5.out).mono ?_); rintro e w6 ⟨v288, rfl, ho0, hb⟩; refine ⟨_, rfl, ?_⟩; have n0_ := yA (Kd.R_lower ho0 (yX (mB HB.out))); have n1_ := yA (zD (mB HB.out) hb); clear HB; have HO289 := n0_; have HB := n1_; clear n0_ n1_; (try clear hb); (try clear hb2); (try clear hk); (try clear hi); (try clear ho0); obtain ⟨Ao7, co7, eo7⟩ := Kd.R_slice HO289.out; subst eo7))
   go_loopg [5, 20] k (fun kq v5 v20 w' => ∃ (x5_1 : Int) (x20_1 : Int), v5 = .int .i64 x5_1 ∧ v20 = .int .i64 x20_1 ∧ Aside0 (impl_depth.l0 kq l0 a1 x5_1 t287 (t287.length : Int) x20_1 = some r) ∧ Aside0 (kq ≤ k) ∧ Aside0 (Kd.R (Kd.int .i64) 3 w' w.heap.size (fun _ => True) (.slice Ao7 t287.length co7) t287) ∧ Aside0 (Below w.heap.size w w'))
   case atStart => exact ⟨(0), (0), (by first | rfl | (simp; done) | (simp [*]; done)), (by first | rfl | (simp; done) | (simp [*]; done)), H', ⟨zT _⟩, ⟨by (with_reducible repeat (first | apply yB | apply yC | apply yD)); exact HO289.out⟩, ⟨by repeat (first | (with_reducible first | exact HB.out | apply yO | apply yN | apply yP) | exact HB.out)⟩⟩
   case round =>
    clear H'; try clear p2
    try clear q2
    try clear hx2
    try clear c3
    try clear c3b0
    try clear c4
    try clear c4b0
    try clear c5
    try clear hx286_0
    try clear hx286_1
    try clear hx286_2
    try clear hx286_3
    try clear p286
    try clear q286
    obtain ⟨x5_1, x20_1, rfl, rfl, HA, HK1, HO_18, HB⟩ := hrel; cases gk with
    | zero => exact absurd HA.out (by simp [impl_depth.l0])
    | succ k1 =>
     have H := HA.out; clear HA; simp only [impl_depth.l0] at H; by_cases c8 : x20_1 < (t287.length : Int)
     ·rw [if_pos c8] at H; have c8b0 : decide (x20_1 < (t287.length : Int)) = true := zH c8; clear c8; by_cases c9 : 0 ≤ x20_1
      ·rw [if_pos c9] at H; have c9b0 : decide (0 ≤ x20_1) = true := zH c9; clear c9; by_cases c10 : x20_1 < (t287.length : Int)
       ·rw [if_pos c10] at H; have c10b0 : decide (x20_1 < (t287.length : Int)) = true := zH c10; clear c10; replace H := Option.bind_eq_some_iff.mp H; obtain ⟨t292, A110, H⟩ := H; replace H : (impl_depth.l0 k1 l0 a1 (mx x5_1 t292) t287 (t287.length : Int) (wrap64 (x20_1 + 1))) = some r := H; have A11 := yA A110; clear A110; obtain ⟨ji12, hji12⟩ : ∃ j_ : Int, (mx x5_1 t292) = j_ := ⟨_, rfl⟩
        replace H : (impl_depth.l0 k1 l0 a1 ji12 t287 (t287.length : Int) (wrap64 (x20_1 + 1))) = some r := by first | (rw [hji12] at H; exact H) | (simp only [hji12] at H ⊢; exact H)
        (try rw [hji12] at A11)
        have hji12_ : (if x5_1 < t292 then t292 else x5_1) = ji12 := hji12; have H' := yA H; clear H; have p291 : 0 ≤ (x20_1 : Int) := zG (by first | (with_reducible assumption) | assumption); have q291 : x20_1 < (t287.length : Int) := zG (by first | (with_reducible assumption) | assumption); obtain ⟨ad291, e291, hx291_0⟩ := Kd.at_int (zN HO_18.out).2.2 x20_1 p291 q291; cases e291; replace p291 := eq_true p291; replace q291 := eq_true q291; go_wp2_with (first | ((with_reducible refine zS (f := 55) rfl ?_); refine goesL_ (some 27) rfl rfl Try.func55 (by kernel_rfl) rfl #[.slice (some ad286) l0.length c0, .int .i64 (rd t287 x20_1)] rfl (by (try simp only [zI, zJ, zK]); first | done | rfl | (simp only [zL, zM]; rfl)) ?_; (with_reducible refine (ih k1 (by have := HK1.out; omega) _ _ l0 (rd t287 x20_1) t292 _ ?side1 ?side2 A11.out).mono ?_); (case side1 => exact mC (yM HR0.out HB.out)); (case side2 => exact HC0.out); rintro e w13 ⟨rfl, hb⟩; refine ⟨_, rfl, ?_⟩; have n0_ := yA (yK (mR HO_18.out) hb); have n1_ := yA (zD (mB HB.out) hb); clear HO_18; clear HB; have HO_18 := n0_; have HB := n1_; clear n0_ n1_; (try clear hb); (try clear hb2); (try clear hk); (try clear hi)))
        go_roundg k1
        case measure => have := HK1.out; omega
        case rel => exact ⟨(ji12), (wrap64 (x20_1 + 1)), (by first | rfl | (simp; done) | (simp only [← hji12] <;> (first | rfl | simp)) | (simp [*]; done)), (by first | rfl | (simp; done) | (simp [*]; done)), H', ⟨by have := HK1.out; omega⟩, ⟨by (with_reducible repeat (first | apply yB | apply yC | apply yD)); exact HO_18.out⟩, ⟨by repeat (first | (with_reducible first | exact HB.out | apply yO | apply yN | apply yP) | exact HB.out)⟩⟩
       rw [if_neg c10] at H; exact absurd H (by simp)
      rw [if_neg c9] at H; exact absurd H (by simp)
     rw [if_neg c8] at H; have c8b0 : decide (x20_1 < (t287.length : Int)) = false := decide_eq_false c8; clear c8; by_cases c14 : 0 ≤ a1
     ·rw [if_pos c14] at H; have c14b0 : decide (0 ≤ a1) = true := zH c14; clear c14; by_cases c15 : a1 < (l0.length : Int)
      ·rw [if_pos c15] at H; have c15b0 : decide (a1 < (l0.length : Int)) = true := zH c15; clear c15; replace H := Option.bind_eq_some_iff.mp H; obtain ⟨t294, A160, H⟩ := H; replace H : ((impl_oneIf.f t294).bind fun t295 => (some (wrap64 (x5_1 + t295)))) = some r := H; have A16 := yA A160; clear A160; replace H := Option.bind_eq_some_iff.mp H; obtain ⟨t295, A170, H⟩ := H; replace H : (some (wrap64 (x5_1 + t295))) = some r := H; have A17 := yA A170; clear A170; obtain rfl := zU H; have p293 : 0 ≤ (a1 : Int) := zG (by first | (with_reducible assumption) | assumption); have q293 : a1 < (l0.length : Int) := zG (by first | (with_reducible assumption) | assumption); obtain ⟨ad293, e293, hx293_0, hx293_1, hx293_2, hx293_3⟩ := at_T48 HR0.out a1 p293 q293; obtain rfl : ad286 = ad293 := (by injection e293); try replace hx293_0 := (HB.out.cell (zE w _ hx293_0)).trans hx293_0
       try replace hx293_1 := (HB.out.cell (zE w _ hx293_1)).trans hx293_1
       try replace hx293_2 := (HB.out.cell (zE w _ hx293_2)).trans hx293_2
       try replace hx293_3 := (HB.out.cell (zE w _ hx293_3)).trans hx293_3
       replace p293 := eq_true p293; replace q293 := eq_true q293; go_wp2_with (first | ((with_reducible refine zS (f := 47) rfl ?_); refine goesL_ (some 35) rfl rfl Try.func47 (by kernel_rfl) rfl #[.agg #[.int .i64 ((rd_T48 l0 a1).f0), .int .i64 ((rd_T48 l0 a1).f1), .int .i64 ((rd_T48 l0 a1).f2), .int .i64 ((rd_T48 l0 a1).f3)]] rfl (by (try simp only [zI, zJ, zK]); first | done | rfl | (simp only [zL, zM]; rfl)) ?_; (with_reducible refine (impl_Node_isQuantifier.calls ((rd_T48 l0 a1).f0) ((rd_T48 l0 a1).f1) ((rd_T48 l0 a1).f2) ((rd_T48 l0 a1).f3) t294 _ A16.out).mono ?_); rintro e w18 ⟨rfl, hb⟩; refine ⟨_, rfl, ?_⟩; have n0_ := yA (yK (mR HO_18.out) hb); have n1_ := yA (zD (mB HB.out) hb); clear HO_18; clear HB; have HO_18 := n0_; have HB := n1_; clear n0_ n1_; (try clear hb); (try clear hb2); (try clear hk); (try clear hi)) | ((with_reducible refine zS (f := 46) rfl ?_); refine goesL_ (some 36) rfl rfl Try.func46 (by kernel_rfl) rfl #[.bool t294] rfl (by (try simp only [zI, zJ, zK]); first | done | rfl | (simp only [zL, zM]; rfl)) ?_; (with_reducible refine (impl_oneIf.calls t294 t295 _ A17.out).mono ?_); rintro e w' ⟨rfl, ⟨nd, rfl⟩⟩; refine ⟨_, rfl, ?_⟩))
       go_ret; exact ⟨by first | rfl | (simp [errW_none, errW_some] <;> rfl) | (simp [*, errW_none, errW_some] <;> rfl), by repeat (first | (with_reducible first | exact HB.out | apply yO | apply yN | apply yP) | exact HB.out)⟩
      rw [if_neg c15] at H; exact absurd H (by simp)
     rw [if_neg c14] at H; exact absurd H (by simp)
  rw [if_neg c4] at H; exact absurd H (by simp)
 rw [if_neg c3] at H; exact absurd H (by simp)

end Go.Proofs.Ytdckaflfgbbabaa.Q
