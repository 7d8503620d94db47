-- written by a program of this session (a turned copy of the kit's print) out of the translation
-- squeezed
-- compact
import Derived.Test.YtdckaflfgbbabaaQ0
import Derived.Test.YtdckaflfgbbabaaQ13
namespace Go.Proofs.Ytdckaflfgbbabaa.Q
open Go.RowKit Go.Proofs.YtdckaflfgbbabaaW.PrintWords Go.Proofs.YtdckaflfgbbabaaW.PrintLast Go.Proofs.YtdckaflfgbbabaaW.PrintMore
attribute [local go_sem] max2_int min2_int max_two min_two max_three min_three max_four min_four   -- for this text's walks alone
set_option linter.unusedVariables false
set_option linter.unusedSimpArgs false

/-! ### spec_l16Depth: function 54 -/
mutual
def spec_l16Depth.l0 : Nat → List (S48) → Int → Int → List Int → Int → Option (Int)
 | 0, _, _, _, _, _ => none
 | k + 1, x0, x1, x5, x6, x7 => if x7 < (x6.length : Int) then (if 0 ≤ x7 then ((spec_l16Depth.f k x0 (rd x6 x7)).bind fun t281 => (spec_l16Depth.l0 k x0 x1 (mx x5 t281) x6 (wrap64 (x7 + 1)))) else (none)) else (if 0 ≤ x1 then (if x1 < (x0.length : Int) then (if ((rd_T48 x0 x1).f0) = 9 then (some (wrap64 (x5 + 1))) else (if ((rd_T48 x0 x1).f0) = 10 then (some (wrap64 (x5 + 1))) else (some x5))) else (none)) else (none))
def spec_l16Depth.f : Nat → List (S48) → Int → Option (Int)
 | 0, _, _ => none
 | k + 1, l0, a1 => if 0 ≤ a1 then (if a1 < (l0.length : Int) then ((spec_l16Kids.f k ((rd_T48 l0 a1).f0) ((rd_T48 l0 a1).f1) ((rd_T48 l0 a1).f2) ((rd_T48 l0 a1).f3)).bind fun t277 => (spec_l16Depth.l0 k l0 a1 0 t277 0)) else (none)) else (none)
end
theorem spec_l16Depth.mono_l : ∀ k, (∀ y0 y1, LeO (spec_l16Depth.f k y0 y1) (spec_l16Depth.f (k + 1) y0 y1)) ∧ (∀ y0 y1 y2 y3 y4, LeO (spec_l16Depth.l0 k y0 y1 y2 y3 y4) (spec_l16Depth.l0 (k + 1) y0 y1 y2 y3 y4))
 | 0 => ⟨fun _ _ r h => by simp [spec_l16Depth.f] at h, fun _ _ _ _ _ r h => by simp [spec_l16Depth.l0] at h⟩
 | k + 1 => by
  obtain ⟨ih0, ih1⟩ := spec_l16Depth.mono_l k; refine ⟨?_, ?_⟩
  ·intro y0 y1; unfold spec_l16Depth.f
   repeat' first
   | (with_reducible exact ih0 _ _)
   | (with_reducible exact ih1 _ _ _ _ _)
   | (with_reducible exact spec_l16Kids.mono _ _ _ _ _)
   | (with_reducible exact LeO.refl _)
   | (with_reducible exact LeO.none _)
   | (with_reducible refine LeO.ite ?_ ?_)
   | (with_reducible refine LeO.bind ?_ (fun _ => ?_))
   | exact ih0 _ _
   | exact ih1 _ _ _ _ _
   | exact spec_l16Kids.mono _ _ _ _ _
   | exact LeO.none _
   | refine LeO.ite ?_ ?_
   | refine LeO.bind ?_ (fun _ => ?_)
  ·intro y0 y1 y2 y3 y4; unfold spec_l16Depth.l0
   repeat' first
   | (with_reducible exact ih0 _ _)
   | (with_reducible exact ih1 _ _ _ _ _)
   | (with_reducible exact spec_l16Kids.mono _ _ _ _ _)
   | (with_reducible exact LeO.refl _)
   | (with_reducible exact LeO.none _)
   | (with_reducible refine LeO.ite ?_ ?_)
   | (with_reducible refine LeO.bind ?_ (fun _ => ?_))
   | exact ih0 _ _
   | exact ih1 _ _ _ _ _
   | exact spec_l16Kids.mono _ _ _ _ _
   | exact LeO.none _
   | refine LeO.ite ?_ ?_
   | refine LeO.bind ?_ (fun _ => ?_)
theorem spec_l16Depth.mono : ∀ a0 a1 k, LeO (spec_l16Depth.f k a0 a1) (spec_l16Depth.f (k + 1) a0 a1) := by
 intro a0 a1 k; obtain ⟨ih0, ih1⟩ := spec_l16Depth.mono_l k; exact ih0 a0 a1
set_option maxHeartbeats 8000000 in
set_option maxRecDepth 100000 in
theorem spec_l16Depth.calls (k : Nat) : ∀ (A0 : Option Addr) (c0 : Nat) (l0 : List (S48)) (a1 : Int) (r : Int) (w : World) (hr0 : Kd.C k48 w A0 l0.length l0) (hc0 : l0.length ≤ c0) (h : spec_l16Depth.f k l0 a1 = some r),
  Calls Try.prog 54 #[.slice A0 l0.length c0, .int .i64 a1] w fun e w' => e = .returned (.int .i64 r) ∧ Below w.heap.size w w' := by
 induction k using Nat.strongRecOn with
 | _ k ih =>
 intro A0 c0 l0 a1 r w hr0 hc0 h; cases k with
 | zero => exact absurd h (by simp [spec_l16Depth.f])
 | succ k =>
 simp only [spec_l16Depth.f] at h; have hu48 := Try.underlying48; have HR0 := yA hr0; have HC0 := yA hc0; clear hr0 hc0; have HB := yA (zV w.heap.size w); have H : (if 0 ≤ a1 then (if a1 < (l0.length : Int) then ((spec_l16Kids.f k ((rd_T48 l0 a1).f0) ((rd_T48 l0 a1).f1) ((rd_T48 l0 a1).f2) ((rd_T48 l0 a1).f3)).bind fun t277 => (spec_l16Depth.l0 k l0 a1 0 t277 0)) else (none)) else (none)) = some r := h; clear h; by_cases c3 : 0 ≤ a1
 ·rw [if_pos c3] at H; have c3b0 : decide (0 ≤ a1) = true := zH c3; clear c3; by_cases c4 : a1 < (l0.length : Int)
  ·rw [if_pos c4] at H; have c4b0 : decide (a1 < (l0.length : Int)) = true := zH c4; clear c4; replace H := Option.bind_eq_some_iff.mp H; obtain ⟨t277, A50, H⟩ := H; replace H : (spec_l16Depth.l0 k l0 a1 0 t277 0) = some r := H; have A5 := yA A50; clear A50; have H' := yA H; clear H; have p276 : 0 ≤ (a1 : Int) := zG (by first | (with_reducible assumption) | assumption); have q276 : a1 < (l0.length : Int) := zG (by first | (with_reducible assumption) | assumption); obtain ⟨ad276, e276, hx276_0, hx276_1, hx276_2, hx276_3⟩ := at_T48 HR0.out a1 p276 q276; cases e276; replace p276 := eq_true p276; replace q276 := eq_true q276; go_enter Try.func54, Try.ntmps54; go_wp2_with (first | ((with_reducible refine zS (f := 51) rfl ?_); refine goesL_ (some 12) rfl rfl Try.func51 (by kernel_rfl) rfl #[.agg #[.int .i64 ((rd_T48 l0 a1).f0), .int .i64 ((rd_T48 l0 a1).f1), .int .i64 ((rd_T48 l0 a1).f2), .int .i64 ((rd_T48 l0 a1).f3)]] rfl (by (try simp only [zI, zJ, zK]); first | done | rfl | (simp only [zL, zM]; rfl)) ?_; (with_reducible refine (spec_l16Kids.calls k ((rd_T48 l0 a1).f0) ((rd_T48 l0 a1).f1) ((rd_T48 l0 a1).f2) ((rd_T48 l0 a1).f3) t277 _ A5.out).mono ?_); rintro e w6 ⟨v278, rfl, ho0, hb⟩; refine ⟨_, rfl, ?_⟩; have n0_ := yA (Kd.R_lower ho0 (yX (mB HB.out))); have n1_ := yA (zD (mB HB.out) hb); clear HB; have HO279 := n0_; have HB := n1_; clear n0_ n1_; (try clear hb); (try clear hb2); (try clear hk); (try clear hi); (try clear ho0)))
   go_loopg [5, 7] k (fun kq v5 v7 w' => ∃ (x5_1 : Int) (x7_1 : Int), v5 = .int .i64 x5_1 ∧ v7 = .int .i64 x7_1 ∧ Aside0 (spec_l16Depth.l0 kq l0 a1 x5_1 t277 x7_1 = some r) ∧ Aside0 (kq ≤ k) ∧ Aside0 (Kd.R (Kd.int .i64) 3 w' w.heap.size (fun _ => True) v278 t277) ∧ Aside0 (Below w.heap.size w w'))
   case atStart => exact ⟨(0), (0), (by first | rfl | (simp; done) | (simp [*]; done)), (by first | rfl | (simp; done) | (simp [*]; done)), H', ⟨zT _⟩, ⟨by (with_reducible repeat (first | apply yB | apply yC | apply yD)); exact HO279.out⟩, ⟨by repeat (first | (with_reducible first | exact HB.out | apply yO | apply yN | apply yP) | exact HB.out)⟩⟩
   case round =>
    clear H'; try clear p2
    try clear q2
    try clear hx2
    try clear c3
    try clear c3b0
    try clear c4
    try clear c4b0
    try clear c5
    try clear hx276_0
    try clear hx276_1
    try clear hx276_2
    try clear hx276_3
    try clear p276
    try clear q276
    obtain ⟨x5_1, x7_1, rfl, rfl, HA, HK1, HO_6, HB⟩ := hrel; cases gk with
    | zero => exact absurd HA.out (by simp [spec_l16Depth.l0])
    | succ k1 =>
     have H := HA.out; clear HA; simp only [spec_l16Depth.l0] at H; by_cases c7 : x7_1 < (t277.length : Int)
     ·rw [if_pos c7] at H; have c7b0 : decide (x7_1 < (t277.length : Int)) = true := zH c7; clear c7; by_cases c8 : 0 ≤ x7_1
      ·rw [if_pos c8] at H; have c8b0 : decide (0 ≤ x7_1) = true := zH c8; clear c8; replace H := Option.bind_eq_some_iff.mp H; obtain ⟨t281, A90, H⟩ := H; replace H : (spec_l16Depth.l0 k1 l0 a1 (mx x5_1 t281) t277 (wrap64 (x7_1 + 1))) = some r := H; have A9 := yA A90; clear A90; obtain ⟨ji10, hji10⟩ : ∃ j_ : Int, (mx x5_1 t281) = j_ := ⟨_, rfl⟩
       replace H : (spec_l16Depth.l0 k1 l0 a1 ji10 t277 (wrap64 (x7_1 + 1))) = some r := by first | (rw [hji10] at H; exact H) | (simp only [hji10] at H ⊢; exact H)
       (try rw [hji10] at A9)
       have hji10_ : (if x5_1 < t281 then t281 else x5_1) = ji10 := hji10; have H' := yA H; clear H; obtain ⟨Ao11, co11, eo11⟩ := Kd.R_slice HO_6.out; subst eo11; have p280 : 0 ≤ (x7_1 : Int) := zG (by first | (with_reducible assumption) | assumption); have q280 : x7_1 < (t277.length : Int) := zG (by first | (with_reducible assumption) | assumption); obtain ⟨ad280, e280, hx280_0⟩ := Kd.at_int (zN HO_6.out).2.2 x7_1 p280 q280; cases e280; replace p280 := eq_true p280; replace q280 := eq_true q280; go_wp2_with (first | ((with_reducible refine zS (f := 54) rfl ?_); refine goesL_ (some 25) rfl rfl Try.func54 (by kernel_rfl) rfl #[.slice (some ad276) l0.length c0, .int .i64 (rd t277 x7_1)] rfl (by (try simp only [zI, zJ, zK]); first | done | rfl | (simp only [zL, zM]; rfl)) ?_; (with_reducible refine (ih k1 (by have := HK1.out; omega) _ _ l0 (rd t277 x7_1) t281 _ ?side1 ?side2 A9.out).mono ?_); (case side1 => exact mC (yM HR0.out HB.out)); (case side2 => exact HC0.out); rintro e w12 ⟨rfl, hb⟩; refine ⟨_, rfl, ?_⟩; have n0_ := yA (yK (mR HO_6.out) hb); have n1_ := yA (zD (mB HB.out) hb); clear HO_6; clear HB; have HO_6 := n0_; have HB := n1_; clear n0_ n1_; (try clear hb); (try clear hb2); (try clear hk); (try clear hi)))
       go_roundg k1
       case measure => have := HK1.out; omega
       case rel => exact ⟨(ji10), (wrap64 (x7_1 + 1)), (by first | rfl | (simp; done) | (simp only [← hji10] <;> (first | rfl | simp)) | (simp [*]; done)), (by first | rfl | (simp; done) | (simp [*]; done)), H', ⟨by have := HK1.out; omega⟩, ⟨by (with_reducible repeat (first | apply yB | apply yC | apply yD)); exact HO_6.out⟩, ⟨by repeat (first | (with_reducible first | exact HB.out | apply yO | apply yN | apply yP) | exact HB.out)⟩⟩
      rw [if_neg c8] at H; exact absurd H (by simp)
     rw [if_neg c7] at H; have c7b0 : decide (x7_1 < (t277.length : Int)) = false := decide_eq_false c7; clear c7; by_cases c13 : 0 ≤ a1
     ·rw [if_pos c13] at H; have c13b0 : decide (0 ≤ a1) = true := zH c13; clear c13; by_cases c14 : a1 < (l0.length : Int)
      ·rw [if_pos c14] at H; have c14b0 : decide (a1 < (l0.length : Int)) = true := zH c14; clear c14; by_cases c15 : ((rd_T48 l0 a1).f0) = 9
       ·rw [if_pos c15] at H; have c15b0 : (((rd_T48 l0 a1).f0) == 9) = true := beq_iff_eq.mpr c15; have c15b1 : (((rd_T48 l0 a1).f0) != 9) = false := bne_eq_false_iff_eq.mpr c15; clear c15; obtain rfl := zU H; obtain ⟨Ao16, co16, eo16⟩ := Kd.R_slice HO_6.out; subst eo16; have p282 : 0 ≤ (a1 : Int) := zG (by first | (with_reducible assumption) | assumption); have q282 : a1 < (l0.length : Int) := zG (by first | (with_reducible assumption) | assumption); obtain ⟨ad282, e282, hx282_0, hx282_1, hx282_2, hx282_3⟩ := at_T48 HR0.out a1 p282 q282; obtain rfl : ad276 = ad282 := (by injection e282); try replace hx282_0 := (HB.out.cell (zE w _ hx282_0)).trans hx282_0
        try replace hx282_1 := (HB.out.cell (zE w _ hx282_1)).trans hx282_1
        try replace hx282_2 := (HB.out.cell (zE w _ hx282_2)).trans hx282_2
        try replace hx282_3 := (HB.out.cell (zE w _ hx282_3)).trans hx282_3
        replace p282 := eq_true p282; replace q282 := eq_true q282; go_wp2; go_ret; exact ⟨by first | rfl | (simp [errW_none, errW_some] <;> rfl) | (simp [*, errW_none, errW_some] <;> rfl), by repeat (first | (with_reducible first | exact HB.out | apply yO | apply yN | apply yP) | exact HB.out)⟩
       rw [if_neg c15] at H; have c15b0 : (((rd_T48 l0 a1).f0) == 9) = false := beq_eq_false_iff_ne.mpr c15; have c15b1 : (((rd_T48 l0 a1).f0) != 9) = true := bne_iff_ne.mpr c15; by_cases c17 : ((rd_T48 l0 a1).f0) = 10
       ·rw [if_pos c17] at H; have c17b0 : (((rd_T48 l0 a1).f0) == 10) = true := beq_iff_eq.mpr c17; have c17b1 : (((rd_T48 l0 a1).f0) != 10) = false := bne_eq_false_iff_eq.mpr c17; clear c17; obtain rfl := zU H; obtain ⟨Ao18, co18, eo18⟩ := Kd.R_slice HO_6.out; subst eo18; have p282 : 0 ≤ (a1 : Int) := zG (by first | (with_reducible assumption) | assumption); have q282 : a1 < (l0.length : Int) := zG (by first | (with_reducible assumption) | assumption); obtain ⟨ad282, e282, hx282_0, hx282_1, hx282_2, hx282_3⟩ := at_T48 HR0.out a1 p282 q282; obtain rfl : ad276 = ad282 := (by injection e282); try replace hx282_0 := (HB.out.cell (zE w _ hx282_0)).trans hx282_0
        try replace hx282_1 := (HB.out.cell (zE w _ hx282_1)).trans hx282_1
        try replace hx282_2 := (HB.out.cell (zE w _ hx282_2)).trans hx282_2
        try replace hx282_3 := (HB.out.cell (zE w _ hx282_3)).trans hx282_3
        replace p282 := eq_true p282; replace q282 := eq_true q282; have p283 : 0 ≤ (a1 : Int) := zG (by first | (with_reducible assumption) | assumption); have q283 : a1 < (l0.length : Int) := zG (by first | (with_reducible assumption) | assumption); obtain ⟨ad283, e283, hx283_0, hx283_1, hx283_2, hx283_3⟩ := at_T48 HR0.out a1 p283 q283; obtain rfl : ad276 = ad283 := (by injection e283); try replace hx283_0 := (HB.out.cell (zE w _ hx283_0)).trans hx283_0
        try replace hx283_1 := (HB.out.cell (zE w _ hx283_1)).trans hx283_1
        try replace hx283_2 := (HB.out.cell (zE w _ hx283_2)).trans hx283_2
        try replace hx283_3 := (HB.out.cell (zE w _ hx283_3)).trans hx283_3
        replace p283 := eq_true p283; replace q283 := eq_true q283; go_wp2; go_ret; exact ⟨by first | rfl | (simp [errW_none, errW_some] <;> rfl) | (simp [*, errW_none, errW_some] <;> rfl), by repeat (first | (with_reducible first | exact HB.out | apply yO | apply yN | apply yP) | exact HB.out)⟩
       rw [if_neg c17] at H; have c17b0 : (((rd_T48 l0 a1).f0) == 10) = false := beq_eq_false_iff_ne.mpr c17; have c17b1 : (((rd_T48 l0 a1).f0) != 10) = true := bne_iff_ne.mpr c17; obtain rfl := zU H; obtain ⟨Ao19, co19, eo19⟩ := Kd.R_slice HO_6.out; subst eo19; have p282 : 0 ≤ (a1 : Int) := zG (by first | (with_reducible assumption) | assumption); have q282 : a1 < (l0.length : Int) := zG (by first | (with_reducible assumption) | assumption); obtain ⟨ad282, e282, hx282_0, hx282_1, hx282_2, hx282_3⟩ := at_T48 HR0.out a1 p282 q282; obtain rfl : ad276 = ad282 := (by injection e282); try replace hx282_0 := (HB.out.cell (zE w _ hx282_0)).trans hx282_0
       try replace hx282_1 := (HB.out.cell (zE w _ hx282_1)).trans hx282_1
       try replace hx282_2 := (HB.out.cell (zE w _ hx282_2)).trans hx282_2
       try replace hx282_3 := (HB.out.cell (zE w _ hx282_3)).trans hx282_3
       replace p282 := eq_true p282; replace q282 := eq_true q282; have p283 : 0 ≤ (a1 : Int) := zG (by first | (with_reducible assumption) | assumption); have q283 : a1 < (l0.length : Int) := zG (by first | (with_reducible assumption) | assumption); obtain ⟨ad283, e283, hx283_0, hx283_1, hx283_2, hx283_3⟩ := at_T48 HR0.out a1 p283 q283; obtain rfl : ad276 = ad283 := (by injection e283); try replace hx283_0 := (HB.out.cell (zE w _ hx283_0)).trans hx283_0
       try replace hx283_1 := (HB.out.cell (zE w _ hx283_1)).trans hx283_1
       try replace hx283_2 := (HB.out.cell (zE w _ hx283_2)).trans hx283_2
       try replace hx283_3 := (HB.out.cell (zE w _ hx283_3)).trans hx283_3
       replace p283 := eq_true p283; replace q283 := eq_true q283; go_wp2; go_ret; exact ⟨by first | rfl | (simp [errW_none, errW_some] <;> rfl) | (simp [*, errW_none, errW_some] <;> rfl), by repeat (first | (with_reducible first | exact HB.out | apply yO | apply yN | apply yP) | exact HB.out)⟩
      rw [if_neg c14] at H; exact absurd H (by simp)
     rw [if_neg c13] at H; exact absurd H (by simp)
  rw [if_neg c4] at H; exact absurd H (by simp)
 rw [if_neg c3] at H; exact absurd H (by simp)

end Go.Proofs.Ytdckaflfgbbabaa.Q
