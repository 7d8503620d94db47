-- written by a program of this session
-- squeezed
-- compact
-- shrunk
import Derived.Test.YtmkeicahnnlalaaQ0
import Derived.Test.YtmkeicahnnlalaaQ53
import Derived.Test.YtmkeicahnnlalaaQ84
import Derived.Test.YtmkeicahnnlalaaQ96
namespace Go.Proofs.Ytmkeicahnnlalaa.Q
open Go.RowKit Go.Proofs.YtmkeicahnnlalaaW.PrintWords Go.Proofs.YtmkeicahnnlalaaW.PrintLast Go.Proofs.YtmkeicahnnlalaaW.PrintMore
set_option linter.unusedVariables false
set_option linter.unusedSimpArgs false

/-! ### impl_BoundedSolutions: function 30 -/
mutual
def impl_BoundedSolutions.j0 : Nat → List (S71) → Int → Bool → Int → List (List Int) → List Int → Option (Int)
 | 0, _, _, _, _, _, _ => none
 | k + 1, x1, x2, x15, x1078000, x1078001, x1078002 => if x15 = true then (some 0) else ((impl_allWords.f k (wrap64 (x2 + 1)) 3).bind fun t1078 => (impl_BoundedSolutions.l0 k x1 x2 0 t1078 (t1078.length : Int) 0 x1078000 x1078001 x1078002))
def impl_BoundedSolutions.l0 : Nat → List (S71) → Int → Int → List (List Int) → Int → Int → Int → List (List Int) → List Int → Option (Int)
 | 0, _, _, _, _, _, _, _, _, _ => none
 | k + 1, x1, x2, x7, x18, x19, x20, x1078000, x1078001, x1078002 => if x20 < x19 then (if 0 ≤ x20 then (if x20 < (x18.length : Int) then ((impl_EvaluateFormula.f k x1078000 x1078001 x1078002 x1 (rd_L1 x18 x20) x2).bind fun t1082 => ((impl_oneIf.f t1082).bind fun t1083 => (impl_BoundedSolutions.l0 k x1 x2 (wrap64 (x7 + t1083)) x18 x19 (wrap64 (x20 + 1)) x1078000 x1078001 x1078002))) else (none)) else (none)) else (some x7)
end
def impl_BoundedSolutions.f (k : Nat) (a0_0 : Int) (l0_1 : List (List Int)) (l0_2 : List Int) (l1 : List (S71)) (a2 : Int) : Option (Int) := if a2 < 0 then (impl_BoundedSolutions.j0 k l1 a2 true a0_0 l0_1 l0_2) else (impl_BoundedSolutions.j0 k l1 a2 (decide (a2 > 5)) a0_0 l0_1 l0_2)
theorem impl_BoundedSolutions.mono_l : ∀ k, (∀ y0 y1 y2 y3 y4 y5, LeO (impl_BoundedSolutions.j0 k y0 y1 y2 y3 y4 y5) (impl_BoundedSolutions.j0 (k + 1) y0 y1 y2 y3 y4 y5)) ∧ (∀ y0 y1 y2 y3 y4 y5 y6 y7 y8, LeO (impl_BoundedSolutions.l0 k y0 y1 y2 y3 y4 y5 y6 y7 y8) (impl_BoundedSolutions.l0 (k + 1) y0 y1 y2 y3 y4 y5 y6 y7 y8))
 | 0 => ⟨fun _ _ _ _ _ _ r h => by simp [impl_BoundedSolutions.j0] at h, fun _ _ _ _ _ _ _ _ _ r h => by simp [impl_BoundedSolutions.l0] at h⟩
 | k + 1 => by
  obtain ⟨ih0, ih1⟩ := impl_BoundedSolutions.mono_l k
  refine ⟨?_, ?_⟩ <;> intros <;> first | unfold impl_BoundedSolutions.j0 | unfold impl_BoundedSolutions.l0
  all_goals repeat' (with_reducible first | exact ih0 _ _ _ _ _ _ | exact ih1 _ _ _ _ _ _ _ _ _ | exact impl_EvaluateFormula.mono _ _ _ _ _ _ _ | exact impl_allWords.mono _ _ _ | exact LeO.refl _ | exact LeO.none _ | refine LeO.ite ?_ ?_ | refine LeO.bind ?_ fun _ => ?_)
theorem impl_BoundedSolutions.mono : ∀ a0 a1 a2 a3 a4 k, LeO (impl_BoundedSolutions.f k a0 a1 a2 a3 a4) (impl_BoundedSolutions.f (k + 1) a0 a1 a2 a3 a4) := by
 intro a0 a1 a2 a3 a4 k
 obtain ⟨ih0, ih1⟩ := impl_BoundedSolutions.mono_l k
 unfold impl_BoundedSolutions.f
 repeat' (with_reducible first | exact ih0 _ _ _ _ _ _ | exact ih1 _ _ _ _ _ _ _ _ _ | exact impl_EvaluateFormula.mono _ _ _ _ _ _ _ | exact impl_allWords.mono _ _ _ | exact LeO.refl _ | exact LeO.none _ | refine LeO.ite ?_ ?_ | refine LeO.bind ?_ fun _ => ?_)
set_option maxHeartbeats 8000000 in
set_option maxRecDepth 100000 in
theorem impl_BoundedSolutions.calls (k : Nat) (a0_0 : Int) (A0_1 : Option Addr) (c0_1 : Nat) (l0_1 : List (List Int)) (A0_2 : Option Addr) (c0_2 : Nat) (l0_2 : List Int) (A1 : Option Addr) (c1 : Nat) (l1 : List (S71)) (a2 : Int) (r : Int) (w : World) (hr0_1 : Kd.C (Kd.slice 3 (Kd.int .i64)) w A0_1 l0_1.length l0_1) (hc0_1 : l0_1.length ≤ c0_1) (hr0_2 : Kd.C (Kd.int .i64) w A0_2 l0_2.length l0_2) (hc0_2 : l0_2.length ≤ c0_2) (hr1 : Kd.C k71 w A1 l1.length l1) (hc1 : l1.length ≤ c1) (h : impl_BoundedSolutions.f k a0_0 l0_1 l0_2 l1 a2 = some r) :
  Calls Try.prog 30 #[.agg #[.int .i64 a0_0, .slice A0_1 l0_1.length c0_1, .slice A0_2 l0_2.length c0_2], .slice A1 l1.length c1, .int .i64 a2] w fun e w' => e = .returned (.int .i64 r) ∧ Below w.heap.size w w' := by
 have hu32 := Try.underlying32
 have HR0_1 := yA hr0_1
 have HC0_1 := yA hc0_1
 clear hr0_1 hc0_1
 have HR0_2 := yA hr0_2
 have HC0_2 := yA hc0_2
 clear hr0_2 hc0_2
 have HR1 := yA hr1
 have HC1 := yA hc1
 clear hr1 hc1
 have HB := yA (zV w.heap.size w)
 have H : (if a2 < 0 then (impl_BoundedSolutions.j0 k l1 a2 true a0_0 l0_1 l0_2) else (impl_BoundedSolutions.j0 k l1 a2 (decide (a2 > 5)) a0_0 l0_1 l0_2)) = some r := h
 clear h
 have HC4 := yA H
 clear H
 go_enter Try.func30, Try.ntmps30
 go_upto_region 1 with (first | ((with_reducible refine gate_dst (N := 3) rfl ?_); refine box_event ?hg (N := 3) ?hd (cs := #[.int .i64 a0_0, .slice A0_1 l0_1.length c0_1, .slice A0_2 l0_2.length c0_2]) (t := 32) ?hr ?_; (case hd => rfl); (case hg => rfl); (case hr => first | (go_simp; done) | (go_simp; rfl)); intro gb1077 hg w5 hbox hb; have BK1077 := yA (hbox); have GW1077 := yA ((by rw [hg]; exact (yX (mB HB.out)) : w.heap.size ≤ gb1077)); have GE1077 := yA ((by rw [hg]; exact (yX (mB HB.out)) : w.heap.size ≤ gb1077)); replace HB := yA (zD (mB HB.out) hb); clear hb hbox hg))
 (try simp only [Act.put, zA, zB, zC])
 go_cut [15] (fun v15 wc => ∃ (kq : Nat) (x15_3 : Bool), v15 = .bool x15_3 ∧ Aside0 (impl_BoundedSolutions.j0 kq l1 a2 x15_3 a0_0 l0_1 l0_2 = some r) ∧ Aside0 (kq ≤ k) ∧ Aside0 (wc.heap[gb1077]? = some (.cells #[.int .i64 a0_0, (.slice A0_1 l0_1.length c0_1), (.slice A0_2 l0_2.length c0_2)] 32 (0, 0))) ∧ Aside0 (Below w.heap.size w wc))
 case first =>
  have H := HC4.out
  clear HC4
  by_cases c6 : a2 < 0
  ·rw [if_pos c6] at H
   have c6b0 : decide (a2 < 0) = true := zH c6
   clear c6
   (first | rw [c6b0] | (simp only [i64_w, i32_w]; rw [c6b0]) | skip)
   have H' := yA H
   clear H
   go_wp2
   go_meet
   case rel => exact ⟨_, (true), (by first | rfl | (simp; done) | (simp [*]; done)), H', ⟨by first | omega | exact zT _⟩, ⟨mK BK1077.out⟩, ⟨by repeat (first | (with_reducible first | exact HB.out | apply yO | apply yN | apply yP | refine yQ ?_ GE1077.out) | exact HB.out)⟩⟩
  ·rw [if_neg c6] at H
   have c6b0 : decide (a2 < 0) = false := decide_eq_false c6
   clear c6
   (first | rw [c6b0] | (simp only [i64_w, i32_w]; rw [c6b0]) | skip)
   have H' := yA H
   clear H
   go_wp2
   go_meet
   case rel => exact ⟨_, (decide (a2 > 5)), (by first | rfl | (simp; done) | (simp [*]; done)), H', ⟨by first | omega | exact zT _⟩, ⟨mK BK1077.out⟩, ⟨by repeat (first | (with_reducible first | exact HB.out | apply yO | apply yN | apply yP | refine yQ ?_ GE1077.out) | exact HB.out)⟩⟩
 case rest =>
  clear HC4
  (try clear c1);(try clear p2);(try clear c3);(try clear c6);(try clear c6b0)
  obtain ⟨kq, x15_3, rfl, HA, HJ3, BK1077, HB⟩ := hcut
  cases kq with
  | zero => exact absurd HA.out (by simp [impl_BoundedSolutions.j0])
  | succ kj3 =>
   have H := HA.out
   clear HA
   simp only [impl_BoundedSolutions.j0] at H
   by_cases c7 : x15_3 = true
   ·subst c7
    replace H := iT H
    obtain rfl := zU H
    go_wp2
    go_ret
    exact ⟨by first | rfl | (simp [errW_none, errW_some] <;> rfl) | (simp [*, errW_none, errW_some] <;> rfl), by repeat (first | (with_reducible first | exact HB.out | apply yO | apply yN | apply yP | refine yQ ?_ GE1077.out) | exact HB.out)⟩
   ·replace c7 := Bool.eq_false_iff.mpr c7
    subst c7
    replace H := iF H
    obtain ⟨t1078, A8, H⟩ := bE H
    have H' := yA H
    clear H
    go_wp2_with (first | ((with_reducible refine zS (f := 63) rfl ?_); refine goesL_ (some 18) rfl rfl Try.func63 (by kernel_rfl) rfl #[.int .i64 (wrap64 (a2 + 1)), .int .i64 3] rfl (by (try simp only [zI, zJ, zK]); first | done | rfl | (simp only [zL, zM]; rfl)) ?_; (with_reducible refine (impl_allWords.calls kj3 (wrap64 (a2 + 1)) 3 t1078 _ A8.out).mono ?_); rintro e w9 ⟨v1079, rfl, ho0, hb⟩; refine ⟨_, rfl, ?_⟩; have HO1080 := yA (Kd.N_lower (Kd.N_mono (ok' := fun k_ => k_ ≠ gb1077) ho0 (fun k_ hk_ => (Kd.freshB (g := gb1077) (o := .cells #[.int .i64 a0_0, .slice A0_1 l0_1.length c0_1, .slice A0_2 l0_2.length c0_2] 32 (0, 0)) (mK BK1077.out) k_ hk_))) (yX (by with_reducible repeat first | exact HB.out | apply yO | apply yN | apply yP | refine yQ ?_ GE1077.out))); replace BK1077 := yA (yU (mK BK1077.out) hb); replace HB := yA (zD (by with_reducible repeat first | exact HB.out | apply yO | apply yN | apply yP | refine yQ ?_ GE1077.out) hb); (try clear hb); (try clear hb2); (try clear hk); (try clear hi); (try clear ho0); obtain ⟨Ao10, co10, eo10⟩ := Kd.N_slice HO1080.out; subst eo10))
    go_loopg [7, 20] kj3 (fun kq v7 v20 w' => ∃ (x7_2 : Int) (x20_2 : Int), v7 = .int .i64 x7_2 ∧ v20 = .int .i64 x20_2 ∧ Aside0 (impl_BoundedSolutions.l0 kq l1 a2 x7_2 t1078 (t1078.length : Int) x20_2 a0_0 l0_1 l0_2 = some r) ∧ Aside0 (kq ≤ kj3) ∧ Aside0 (Kd.N (Kd.slice 3 (Kd.int .i64)) 23 w' w.heap.size (fun k_ => k_ ≠ gb1077) (.slice Ao10 t1078.length co10) t1078) ∧ Aside0 (w'.heap[gb1077]? = some (.cells #[.int .i64 a0_0, (.slice A0_1 l0_1.length c0_1), (.slice A0_2 l0_2.length c0_2)] 32 (0, 0))) ∧ Aside0 (Below w.heap.size w w'))
    case atStart => exact ⟨(0), (0), (by first | rfl | (simp; done) | (simp [*]; done)), (by first | rfl | (simp; done) | (simp [*]; done)), H', ⟨zT _⟩, ⟨by (with_reducible repeat (first | apply Kd.N_alloc | apply Kd.N_drewN | apply Kd.N_drew)); exact HO1080.out⟩, ⟨mK BK1077.out⟩, ⟨by repeat (first | (with_reducible first | exact HB.out | apply yO | apply yN | apply yP | refine yQ ?_ GE1077.out) | exact HB.out)⟩⟩
    case round =>
     clear H'
     (try clear c1);(try clear p2);(try clear c3);(try clear c6);(try clear c6b0);(try clear p6);(try clear c7);(try clear p2)
     obtain ⟨x7_2, x20_2, rfl, rfl, HA, HK2, HO_18, BK1077, HB⟩ := hrel
     cases gk with
     | zero => exact absurd HA.out (by simp [impl_BoundedSolutions.l0])
     | succ k2 =>
      have H := HA.out
      clear HA
      simp only [impl_BoundedSolutions.l0] at H
      by_cases c11 : x20_2 < (t1078.length : Int)
      ·rw [if_pos c11] at H
       have c11b0 : decide (x20_2 < (t1078.length : Int)) = true := zH c11
       clear c11
       obtain ⟨c12, H⟩ := iP H
       have c12b0 : decide (0 ≤ x20_2) = true := zH c12
       clear c12
       obtain ⟨c13, H⟩ := iP H
       have c13b0 : decide (x20_2 < (t1078.length : Int)) = true := zH c13
       clear c13
       obtain ⟨t1082, A14, H⟩ := bE H
       obtain ⟨t1083, A15, H⟩ := bE H
       have H' := yA H
       clear H
       have p1081 : 0 ≤ (x20_2 : Int) := zG (by assumption)
       have q1081 : x20_2 < (t1078.length : Int) := zG (by assumption)
       obtain ⟨ad1081, A1081_0, c1081_0, e1081, hx1081_0, hl1081_0, hi1081_0⟩ := at_L1 (Kd.N_reads' HO_18.out).2.2 x20_2 p1081 q1081
       cases e1081
       obtain ⟨ce1081, hce1081, hMe1081, hcc1081⟩ := Kd.N_get HO_18.out [] x20_2 p1081 (by first | exact q1081 | exact zG (by assumption) | (have e_ := (Kd.N_reads' HO_18.out).1; omega))
       obtain ⟨ua1081_0, uc1081_0, rfl, ul1081_0, ge1081_0⟩ := Kd.FK_slice_open hMe1081
       have hv1081_0 := hcc1081 0 _ rfl
       rw [Nat.add_zero, show ((Kd.slice 3 (Kd.int .i64))).sz = 1 from rfl, Nat.mul_one] at hv1081_0
       replace hv1081_0 := zU (hv1081_0.symm.trans hx1081_0)
       injection hv1081_0 with hva_ hvn_ hvc_
       rw [hva_] at ge1081_0
       rw [hvc_] at ul1081_0
       have HL1081_0 := yA (show Kd.V (Kd.int .i64) 3 _ w.heap.size _ _ (rd_L1 t1078 x20_2) from Kd.V_mk ul1081_0 ge1081_0)
       clear hva_ hvn_ hvc_ ge1081_0 ul1081_0 hcc1081 hce1081
       have HR1081_0 := yA hi1081_0
       have HC1081_0 := yA hl1081_0
       clear hi1081_0 hl1081_0
       replace p1081 := eq_true p1081
       replace q1081 := eq_true q1081
       obtain ⟨hcz16_0, hcz16_1, hcz16_2⟩ := cz3 BK1077.out
       obtain ⟨hfz16_0, hfz16_1, hfz16_2⟩ := fz3 BK1077.out
       go_wp2_with (first | ((with_reducible refine zS (f := 65) rfl ?_); refine goesL_ (some 29) rfl rfl Try.func65 (by kernel_rfl) rfl #[.agg #[.int .i64 a0_0, .slice A0_1 l0_1.length c0_1, .slice A0_2 l0_2.length c0_2], .slice A1 l1.length c1, .slice A1081_0 (rd_L1 t1078 x20_2).length c1081_0, .int .i64 a2] rfl (by (try simp only [zI, zJ, zK]); first | done | rfl | (simp only [zL, zM]; rfl)) ?_; (with_reducible refine (impl_EvaluateFormula.calls k2 a0_0 _ _ l0_1 _ _ l0_2 _ _ l1 _ _ (rd_L1 t1078 x20_2) a2 t1082 _ ?side1 ?side2 ?side3 ?side4 ?side5 ?side6 ?side7 ?side8 A14.out).mono ?_); (case side1 => exact mC (yM HR0_1.out HB.out)); (case side2 => exact HC0_1.out); (case side3 => exact mC (yM HR0_2.out HB.out)); (case side4 => exact HC0_2.out); (case side5 => exact mC (yM HR1.out HB.out)); (case side6 => exact HC1.out); (case side7 => exact mC (by repeat (first | (with_reducible exact HR1081_0.out) | (with_reducible refine yE ?_ _) | (with_reducible refine yF ?_ _) | (with_reducible refine yG ?_) | exact HR1081_0.out))); (case side8 => exact HC1081_0.out); rintro e w17 ⟨rfl, hb⟩; refine ⟨_, rfl, ?_⟩; replace HO_18 := yA (Kd.N_below (by (with_reducible repeat (first | apply Kd.N_alloc | apply Kd.N_drewN | apply Kd.N_drew)); exact HO_18.out) hb); replace HL1081_0 := yA (Kd.V_below (by (with_reducible repeat (first | apply Kd.V_alloc | apply Kd.V_drewN | apply Kd.V_drew)); exact HL1081_0.out) hb); replace BK1077 := yA (yU (mK BK1077.out) hb); replace HR1081_0 := yA (yM (by repeat (first | (with_reducible exact HR1081_0.out) | (with_reducible refine yE ?_ _) | (with_reducible refine yF ?_ _) | (with_reducible refine yG ?_) | exact HR1081_0.out)) hb); replace HB := yA (zD (by with_reducible repeat first | exact HB.out | apply yO | apply yN | apply yP | refine yQ ?_ GE1077.out) hb); (try clear hb); (try clear hb2); (try clear hk); (try clear hi)) | ((with_reducible refine zS (f := 64) rfl ?_); refine goesL_ (some 30) rfl rfl Try.func64 (by kernel_rfl) rfl #[.bool t1082] rfl (by (try simp only [zI, zJ, zK]); first | done | rfl | (simp only [zL, zM]; rfl)) ?_; (with_reducible refine (impl_oneIf.calls t1082 t1083 _ A15.out).mono ?_); rintro e w' ⟨rfl, ⟨nd, rfl⟩⟩; refine ⟨_, rfl, ?_⟩))
       go_roundg k2
       case measure => have := HJ3.out; have := HK2.out; omega
       case rel => exact ⟨(wrap64 (x7_2 + t1083)), (wrap64 (x20_2 + 1)), (by first | rfl | (simp; done) | (simp [*]; done)), (by first | rfl | (simp; done) | (simp [*]; done)), H', ⟨by have := HJ3.out; have := HK2.out; omega⟩, ⟨by (with_reducible repeat (first | apply Kd.N_alloc | apply Kd.N_drewN | apply Kd.N_drew)); exact HO_18.out⟩, ⟨mK BK1077.out⟩, ⟨by repeat (first | (with_reducible first | exact HB.out | apply yO | apply yN | apply yP | refine yQ ?_ GE1077.out) | exact HB.out)⟩⟩
      ·rw [if_neg c11] at H
       have c11b0 : decide (x20_2 < (t1078.length : Int)) = false := decide_eq_false c11
       clear c11
       obtain rfl := zU H
       go_wp2
       go_ret
       exact ⟨by first | rfl | (simp [errW_none, errW_some] <;> rfl) | (simp [*, errW_none, errW_some] <;> rfl), by repeat (first | (with_reducible first | exact HB.out | apply yO | apply yN | apply yP | refine yQ ?_ GE1077.out) | exact HB.out)⟩

end Go.Proofs.Ytmkeicahnnlalaa.Q
