-- written by a program of this session
-- squeezed
-- compact
-- shrunk
import Derived.Test.YtmkeicahnnlalaaQ0
import Derived.Test.YtmkeicahnnlalaaQ4
import Derived.Test.YtmkeicahnnlalaaQ67
import Derived.Test.YtmkeicahnnlalaaQ68
namespace Go.Proofs.Ytmkeicahnnlalaa.Q
open Go.RowKit Go.Proofs.YtmkeicahnnlalaaW.PrintWords Go.Proofs.YtmkeicahnnlalaaW.PrintLast Go.Proofs.YtmkeicahnnlalaaW.PrintMore
set_option linter.unusedVariables false
set_option linter.unusedSimpArgs false

/-! ### spec_IsFormula: function 93 -/
mutual
def spec_IsFormula.l0 : Nat → List (S71) → List Int → Int → Option (Bool)
 | 0, _, _, _ => none
 | k + 1, x0, x3, x4 => if x4 < (x0.length : Int) then (if 0 ≤ x4 then ((spec_l16Node.f k ((rd_T71 x0 x4).f0) ((rd_T71 x0 x4).f1) ((rd_T71 x0 x4).f2) ((rd_T71 x0 x4).f3) x4).bind fun t873 => (if t873 = true then ((spec_l16Kids.f k ((rd_T71 x0 x4).f0) ((rd_T71 x0 x4).f1) ((rd_T71 x0 x4).f2) ((rd_T71 x0 x4).f3)).bind fun t875 => (spec_IsFormula.l1 k x0 x3 x4 t875 0)) else (some false))) else (none)) else (spec_IsFormula.l2 k x0 x3 0)
def spec_IsFormula.l1 : Nat → List (S71) → List Int → Int → List Int → Int → Option (Bool)
 | 0, _, _, _, _, _ => none
 | k + 1, x0, x3, x4, x5, x6 => if x6 < (x5.length : Int) then (if 0 ≤ x6 then (if 0 ≤ (rd x5 x6) then (if (rd x5 x6) < (x3.length : Int) then (spec_IsFormula.l1 k x0 (x3.set ((rd x5 x6) : Int).toNat (wrap64 ((rd x3 (rd x5 x6)) + 1))) x4 x5 (wrap64 (x6 + 1))) else (none)) else (none)) else (none)) else (spec_IsFormula.l0 k x0 x3 (wrap64 (x4 + 1)))
def spec_IsFormula.l2 : Nat → List (S71) → List Int → Int → Option (Bool)
 | 0, _, _, _ => none
 | k + 1, x0, x3, x7 => if x7 < (wrap64 ((x0.length : Int) - 1)) then (if 0 ≤ x7 then (if x7 < (x3.length : Int) then (if (rd x3 x7) = 1 then (spec_IsFormula.l2 k x0 x3 (wrap64 (x7 + 1))) else (some false)) else (none)) else (none)) else (some true)
end
def spec_IsFormula.f (k : Nat) (l0 : List (S71)) : Option (Bool) := (spec_l1In.f (l0.length : Int) 1 40).bind fun t868 => (if t868 = true then (if 0 ≤ (l0.length : Int) then (if ((l0.length : Int) : Int).toNat ≤ 35184372088832 then (spec_IsFormula.l0 k l0 (List.replicate ((l0.length : Int) : Int).toNat 0) 0) else (none)) else (none)) else (some false))
theorem spec_IsFormula.mono_l : ∀ k, (∀ y0 y1 y2, LeO (spec_IsFormula.l0 k y0 y1 y2) (spec_IsFormula.l0 (k + 1) y0 y1 y2)) ∧ (∀ y0 y1 y2 y3 y4, LeO (spec_IsFormula.l1 k y0 y1 y2 y3 y4) (spec_IsFormula.l1 (k + 1) y0 y1 y2 y3 y4)) ∧ (∀ y0 y1 y2, LeO (spec_IsFormula.l2 k y0 y1 y2) (spec_IsFormula.l2 (k + 1) y0 y1 y2))
 | 0 => ⟨fun _ _ _ r h => by simp [spec_IsFormula.l0] at h, fun _ _ _ _ _ r h => by simp [spec_IsFormula.l1] at h, fun _ _ _ r h => by simp [spec_IsFormula.l2] at h⟩
 | k + 1 => by
  obtain ⟨ih0, ih1, ih2⟩ := spec_IsFormula.mono_l k
  refine ⟨?_, ?_, ?_⟩ <;> intros <;> first | unfold spec_IsFormula.l0 | unfold spec_IsFormula.l1 | unfold spec_IsFormula.l2
  all_goals repeat' (with_reducible first | exact ih0 _ _ _ | exact ih1 _ _ _ _ _ | exact ih2 _ _ _ | exact spec_l16Kids.mono _ _ _ _ _ | exact spec_l16Node.mono _ _ _ _ _ _ | exact LeO.refl _ | exact LeO.none _ | refine LeO.ite ?_ ?_ | refine LeO.bind ?_ fun _ => ?_)
theorem spec_IsFormula.mono : ∀ a0 k, LeO (spec_IsFormula.f k a0) (spec_IsFormula.f (k + 1) a0) := by
 intro a0 k
 obtain ⟨ih0, ih1, ih2⟩ := spec_IsFormula.mono_l k
 unfold spec_IsFormula.f
 repeat' (with_reducible first | exact ih0 _ _ _ | exact ih1 _ _ _ _ _ | exact ih2 _ _ _ | exact spec_l16Kids.mono _ _ _ _ _ | exact spec_l16Node.mono _ _ _ _ _ _ | exact LeO.refl _ | exact LeO.none _ | refine LeO.ite ?_ ?_ | refine LeO.bind ?_ fun _ => ?_)
def spec_IsFormula.T13 : Bool × List (List Nat × List Nat) := (true, [([], []), ([], []), ([], []), ([1, 2], [1, 2]), ([3], [3]), ([], []), ([], []), ([], []), ([6, 7], [6, 7]), ([8], [8]), ([5, 9], [5, 9]), ([10], [10]), ([11], [11]), ([0, 4, 0, 1, 2, 3, 4, 5, 6, 7, 8, 9, 10, 11, 12], [0, 4]), ([13, 12, 0, 1, 2, 3, 4, 5, 6, 7, 8, 9, 10, 11, 12], [12, 13])])
def spec_IsFormula.B13 : List Nat := [0, 0, 0, 6, 14, 0, 0, 0, 192, 448, 992, 2016, 4064, 8191, 16383]
theorem spec_IsFormula.tab13 : rtab .any (opsOf Try.f93 13) = spec_IsFormula.T13 := by kernel_rfl
theorem spec_IsFormula.bits13 : waitsOk spec_IsFormula.T13.2 spec_IsFormula.B13 = true := by kernel_rfl
set_option maxHeartbeats 8000000 in
set_option maxRecDepth 100000 in
theorem spec_IsFormula.calls (k : Nat) (A0 : Option Addr) (c0 : Nat) (l0 : List (S71)) (r : Bool) (w : World) (hr0 : Kd.C k71 w A0 l0.length l0) (hc0 : l0.length ≤ c0) (h : spec_IsFormula.f k l0 = some r) :
  Calls Try.prog 93 #[.slice A0 l0.length c0] w fun e w' => e = .returned (.bool r) ∧ Below w.heap.size w w' := by
 have hu71 := Try.underlying71
 have HR0 := yA hr0
 have HC0 := yA hc0
 clear hr0 hc0
 have HB := yA (zV w.heap.size w)
 have H : ((spec_l1In.f (l0.length : Int) 1 40).bind fun t868 => (if t868 = true then (if 0 ≤ (l0.length : Int) then (if ((l0.length : Int) : Int).toNat ≤ 35184372088832 then (spec_IsFormula.l0 k l0 (List.replicate ((l0.length : Int) : Int).toNat 0) 0) else (none)) else (none)) else (some false))) = some r := h
 clear h
 obtain ⟨t868, A2, H⟩ := bE H
 by_cases c3 : t868 = true
 ·subst c3
  replace H := iT H
  obtain ⟨c4, H⟩ := iP H
  have c4b0 := eq_true c4
  have c4b1 : decide (0 ≤ (l0.length : Int)) = true := zH c4
  clear c4
  obtain ⟨c5, H⟩ := iP H
  have c5b0 := eq_true c5
  have c5b1 : decide (((l0.length : Int) : Int).toNat ≤ 35184372088832) = true := zH c5
  clear c5
  (first | ((with_reducible replace H := bS H); obtain ⟨y869, Ny869, H⟩ := H) | (obtain ⟨y869, Ny869⟩ : ∃ y_ : List Int, y_ = (List.replicate ((l0.length : Int) : Int).toNat 0) := ⟨_, rfl⟩; rw [← Ny869] at H; replace Ny869 := yA Ny869))
  have H' := yA H
  clear H
  go_enter Try.func93, Try.ntmps93
  go_wp2_with (first | ((with_reducible refine zS (f := 39) rfl ?_); refine goesL_ (some 10) rfl rfl Try.func39 (by kernel_rfl) rfl #[.int .i64 (l0.length : Int), .int .i64 1, .int .i64 40] rfl (by (try simp only [zI, zJ, zK]); first | done | rfl | (simp only [zL, zM]; rfl)) ?_; (with_reducible refine (spec_l1In.calls (l0.length : Int) 1 40 true _ A2.out).mono ?_); rintro e w' ⟨rfl, ⟨nd, rfl⟩⟩; refine ⟨_, rfl, ?_⟩) | ((with_reducible refine gate_dst (N := 14) rfl ?_); refine Kd.R_make (Kd.int .i64) _ 3 rfl (N := 14) rfl 23 _ _ rfl (l0.length : Int) rfl rfl Try.underlying23 (.int .i64 0) 8 info3 rfl (by decide) (by omega) 0 (ok := fun _ => True) (okp := fun _ => True) rfl (fun _ hk => hk) trivial (zG (by assumption)) (Nat.le_trans (Nat.mul_le_mul_right _ (zG (by assumption) : (l0.length : Int).toNat ≤ 35184372088832)) (by omega)) (zV _ _) (zT _) ?_; intro v870 w6 ho7 hb hg_ hnew_; clear hg_ hnew_; (first | rw [← Ny869.out] at ho7 | (simp only [Int.reduceToNat] at ho7; rw [← Ny869.out] at ho7)); have HO871 := yA (Kd.R_lower ho7 (yX (mB HB.out))); replace HB := yA (zD (mB HB.out) hb); clear hb ho7))
  go_loopg [4] k (fun kq v4 w' => ∃ (x3_1 : List Int) (x4_1 : Int), v4 = .int .i64 x4_1 ∧ Aside0 (spec_IsFormula.l0 kq l0 x3_1 x4_1 = some r) ∧ Aside0 (kq ≤ k) ∧ Aside0 (Kd.R (Kd.int .i64) 3 w' w.heap.size (fun _ => True) v870 x3_1) ∧ Aside0 (Below w.heap.size w w'))
  case atStart => exact ⟨(y869), (0), (by first | rfl | (simp; done) | (simp [*]; done)), H', ⟨zT _⟩, ⟨mR HO871.out⟩, ⟨mB HB.out⟩⟩
  case round =>
   clear H'
   (try clear p2);(try clear c3);(try clear c4);(try clear c4b0);(try clear c4b1);(try clear c5);(try clear c5b0);(try clear c5b1)
   obtain ⟨x3_1, x4_1, rfl, HA, HK1, HO_3, HB⟩ := hrel
   cases gk with
   | zero => exact absurd HA.out (by simp [spec_IsFormula.l0])
   | succ k1 =>
    have H := HA.out
    clear HA
    simp only [spec_IsFormula.l0] at H
    by_cases c8 : x4_1 < (l0.length : Int)
    ·rw [if_pos c8] at H
     have c8b0 : decide (x4_1 < (l0.length : Int)) = true := zH c8
     clear c8
     obtain ⟨c9, H⟩ := iP H
     have c9b0 : decide (0 ≤ x4_1) = true := zH c9
     clear c9
     obtain ⟨t873, A10, H⟩ := bE H
     by_cases c11 : t873 = true
     ·subst c11
      replace H := iT H
      obtain ⟨t875, A12, H⟩ := bE H
      have H' := yA H
      clear H
      have p872 : 0 ≤ (x4_1 : Int) := zG (by assumption)
      have q872 : x4_1 < (l0.length : Int) := zG (by assumption)
      obtain ⟨ad872, e872, hx872_0, hx872_1, hx872_2, hx872_3⟩ := at_T71 HR0.out x4_1 p872 q872
      cases e872
      try replace hx872_0 := (HB.out.cell (zE w _ hx872_0)).trans hx872_0
      try replace hx872_1 := (HB.out.cell (zE w _ hx872_1)).trans hx872_1
      try replace hx872_2 := (HB.out.cell (zE w _ hx872_2)).trans hx872_2
      try replace hx872_3 := (HB.out.cell (zE w _ hx872_3)).trans hx872_3
      replace p872 := eq_true p872
      replace q872 := eq_true q872
      go_wp2_with (first | ((with_reducible refine zS (f := 116) rfl ?_); refine goesL_ (some 26) rfl rfl Try.func116 (by kernel_rfl) rfl #[.agg #[.int .i64 ((rd_T71 l0 x4_1).f0), .int .i64 ((rd_T71 l0 x4_1).f1), .int .i64 ((rd_T71 l0 x4_1).f2), .int .i64 ((rd_T71 l0 x4_1).f3)], .int .i64 x4_1] rfl (by (try simp only [zI, zJ, zK]); first | done | rfl | (simp only [zL, zM]; rfl)) ?_; (with_reducible refine (spec_l16Node.calls k1 ((rd_T71 l0 x4_1).f0) ((rd_T71 l0 x4_1).f1) ((rd_T71 l0 x4_1).f2) ((rd_T71 l0 x4_1).f3) x4_1 true _ A10.out).mono ?_); rintro e w13 ⟨rfl, hb⟩; refine ⟨_, rfl, ?_⟩; replace HO_3 := yA (yK (mR HO_3.out) hb); replace HB := yA (zD (mB HB.out) hb); (try clear hb); (try clear hb2); (try clear hk); (try clear hi); have p874 : 0 ≤ (x4_1 : Int) := zG (by assumption); have q874 : x4_1 < (l0.length : Int) := zG (by assumption); obtain ⟨ad874, e874, hx874_0, hx874_1, hx874_2, hx874_3⟩ := at_T71 HR0.out x4_1 p874 q874; obtain rfl : ad872 = ad874 := (by injection e874); replace hx874_0 := (HB.out.cell (zE w _ hx874_0)).trans hx874_0; replace hx874_1 := (HB.out.cell (zE w _ hx874_1)).trans hx874_1; replace hx874_2 := (HB.out.cell (zE w _ hx874_2)).trans hx874_2; replace hx874_3 := (HB.out.cell (zE w _ hx874_3)).trans hx874_3; replace p874 := eq_true p874; replace q874 := eq_true q874) | ((with_reducible refine zS (f := 117) rfl ?_); refine goesL_ (some 32) rfl rfl Try.func117 (by kernel_rfl) rfl #[.agg #[.int .i64 ((rd_T71 l0 x4_1).f0), .int .i64 ((rd_T71 l0 x4_1).f1), .int .i64 ((rd_T71 l0 x4_1).f2), .int .i64 ((rd_T71 l0 x4_1).f3)]] rfl (by (try simp only [zI, zJ, zK]); first | done | rfl | (simp only [zL, zM]; rfl)) ?_; (with_reducible refine (spec_l16Kids.calls k1 ((rd_T71 l0 x4_1).f0) ((rd_T71 l0 x4_1).f1) ((rd_T71 l0 x4_1).f2) ((rd_T71 l0 x4_1).f3) t875 _ A12.out).mono ?_); rintro e w14 ⟨v876, rfl, ho0, hb⟩; refine ⟨_, rfl, ?_⟩; have HO877 := yA (Kd.R_lower (Kd.R_new' ho0 (yZ (mR HO_3.out))) (yX (mB HB.out))); replace HO_3 := yA (zO (mR HO_3.out) (yY ho0) hb); replace HB := yA (zD (mB HB.out) hb); (try clear hb); (try clear hb2); (try clear hk); (try clear hi); (try clear ho0)))
      go_loopg [6] k1 (fun kq v6 w' => ∃ (x3_2 : List Int) (x6_2 : Int), v6 = .int .i64 x6_2 ∧ Aside0 (spec_IsFormula.l1 kq l0 x3_2 x4_1 t875 x6_2 = some r) ∧ Aside0 (kq ≤ k1) ∧ Aside0 (Kd.R (Kd.int .i64) 3 w' w.heap.size (fun k_ => some k_ ≠ (v876 : Value).ownBlock) v870 x3_2) ∧ Aside0 (Kd.R (Kd.int .i64) 3 w' w.heap.size (fun k_ => some k_ ≠ (v870 : Value).ownBlock) v876 t875) ∧ Aside0 (Below w.heap.size w w'))
      case atStart => exact ⟨(x3_1), (0), (by first | rfl | (simp; done) | (simp [*]; done)), H', ⟨zT _⟩, ⟨by (with_reducible repeat (first | apply yB | apply yC | apply yD)); exact zP HO_3.out (fun _ hk => hk.2)⟩, ⟨by (with_reducible repeat (first | apply yB | apply yC | apply yD)); exact zP HO877.out (fun _ hk => hk.2)⟩, ⟨mB HB.out⟩⟩
      case round =>
       clear H'
       (try clear c1);(try clear p2);(try clear c3);(try clear c4);(try clear c4b0);(try clear c4b1);(try clear c5);(try clear c5b0);(try clear c5b1);(try clear c8);(try clear c8b0);(try clear p8);(try clear q8);(try clear hx8);(try clear c9);(try clear c9b0);(try clear c11);(try clear hx872_0);(try clear hx872_1);(try clear hx872_2);(try clear hx872_3);(try clear hx874_0);(try clear hx874_1);(try clear hx874_2);(try clear hx874_3);(try clear p2);(try clear p872);(try clear p874);(try clear q872);(try clear q874)
       obtain ⟨x3_2, x6_2, rfl, HA, HK2, HO_3, HO_5, HB⟩ := hrel
       cases gk with
       | zero => exact absurd HA.out (by simp [spec_IsFormula.l1])
       | succ k2 =>
        have H := HA.out
        clear HA
        simp only [spec_IsFormula.l1] at H
        by_cases c15 : x6_2 < (t875.length : Int)
        ·rw [if_pos c15] at H
         have c15b0 : decide (x6_2 < (t875.length : Int)) = true := zH c15
         clear c15
         obtain ⟨c16, H⟩ := iP H
         have c16b0 : decide (0 ≤ x6_2) = true := zH c16
         clear c16
         obtain ⟨c17, H⟩ := iP H
         have c17b0 : decide (0 ≤ (rd t875 x6_2)) = true := zH c17
         clear c17
         obtain ⟨c18, H⟩ := iP H
         have c18b0 : decide ((rd t875 x6_2) < (x3_2.length : Int)) = true := zH c18
         clear c18
         (first | ((with_reducible replace H := bS H); obtain ⟨y881, Ny881, H⟩ := H) | (obtain ⟨y881, Ny881⟩ : ∃ y_ : List Int, y_ = (x3_2.set ((rd t875 x6_2) : Int).toNat (wrap64 ((rd x3_2 (rd t875 x6_2)) + 1))) := ⟨_, rfl⟩; rw [← Ny881] at H; replace Ny881 := yA Ny881))
         have H' := yA H
         clear H
         obtain ⟨Ao20, co20, eo20⟩ := Kd.R_slice HO_5.out
         subst eo20
         try go_wp2
         replace HO_3 := yA (yD HO_3.out)
         replace HO_5 := yA (yD HO_5.out)
         replace HB := yA (yP HB.out)
         have p878 : 0 ≤ (x6_2 : Int) := zG (by assumption)
         have q878 : x6_2 < (t875.length : Int) := zG (by assumption)
         obtain ⟨ad878, e878, hx878_0⟩ := Kd.at_int (zN HO_5.out).2.2 x6_2 p878 q878
         cases e878
         replace p878 := eq_true p878
         replace q878 := eq_true q878
         have p879 : 0 ≤ (x6_2 : Int) := zG (by assumption)
         have q879 : x6_2 < (t875.length : Int) := zG (by assumption)
         obtain ⟨ad879, e879, hx879_0⟩ := Kd.at_int (zN HO_5.out).2.2 x6_2 p879 q879
         obtain rfl : ad878 = ad879 := (by injection e879)
         replace p879 := eq_true p879
         replace q879 := eq_true q879
         obtain ⟨Ao22, co22, eo22⟩ := Kd.R_slice HO_3.out
         (first | subst eo22 | (injection eo22 with f1_ f2_ f3_; have f4_ := f1_.symm; have f5_ := f3_.symm; clear f1_ f2_ f3_; subst f4_; subst f5_))
         have p880 : 0 ≤ ((rd t875 x6_2) : Int) := zG (by assumption)
         have q880 : (rd t875 x6_2) < (x3_2.length : Int) := zG (by assumption)
         obtain ⟨ad880, e880, hx880_0⟩ := Kd.at_int (zN HO_3.out).2.2 (rd t875 x6_2) p880 q880
         cases e880
         replace p880 := eq_true p880
         replace q880 := eq_true q880
         have p19 : 0 ≤ ((rd t875 x6_2) : Int) := zG (by assumption)
         have q19 : ((rd t875 x6_2) : Int) < ((x3_2.length : Int) : Int) := zG (by assumption)
         obtain ⟨go19, co19, eo19, gb19, gl19, cl19, HG19⟩ := Kd.R_form HO_3.out (by omega)
         (first | cases eo19 | (injection eo19 with ea_ en_ ec_; (first | subst ea_ | (injection ea_ with ea_; subst ea_)); subst ec_; clear en_))
         have GB19 := yA gb19
         have GG19 := yA HG19
         clear gb19 gl19 HG19
         (first | simp only [add_plain] at hx880_0 | skip)
         obtain ⟨hx19_0, hf19_0⟩ := Kd.R_celln 0 HO_3.out ((rd t875 x6_2) : Int) p19 q19
         replace p19 := eq_true p19
         replace q19 := eq_true q19
         have HP23 := Kd.R_putn HO_3.out ((rd t875 x6_2) : Int) (wrap64 ((rd x3_2 (rd t875 x6_2)) + 1))
         rw [← Ny881.out] at HP23
         have HQ23 := yA HP23
         clear HP23
         refine start_ (n := 15) (S := fun w' => w'.cell? (ad878.add (x6_2).toNat) = some (.int .i64 (rd t875 x6_2)) ∧ w'.cell? (ad878.add (x6_2).toNat) = some (.int .i64 (rd t875 x6_2)) ∧ w'.cell? ⟨go19, ((rd t875 x6_2)).toNat, none⟩ = some (.int .i64 (rd x3_2 (rd t875 x6_2)))) (ds := [14]) #[false, false, false, false, false, false, false, false, false, false, false, false, false, false, false] (by kernel_rfl) rfl rfl ⟨hx878_0, hx879_0, hx880_0⟩ (fun hHeld => ?_); refine with_tabW spec_IsFormula.tab13 spec_IsFormula.bits13 (fun HT_ HW_ => ?_)
         generalize wr.drew = w21 at HO_3 HO_5 HB GG19 HQ23 hf19_0 hx19_0 hx878_0 hx879_0 hx880_0 hHeld ⊢
         refine pure_ (i := 0) (N := some 39) (v := ?_) (a' := ?_) #[true, false, false, false, false, false, false, false, false, false, false, false, false, false, false] rfl rfl (any_of HT_.out (by kernel_rfl)) (fun _ _ _ h => h) (Or.inl ⟨by rfl, ?_⟩) ?_ ?_
         rotate_left
         ·intro w'
          go_simp
          with_reducible rfl
         rotate_left
         ·simp only [Act.put, zA, zB, zC, i64_w, i32_w]
          rfl
         refine pure_ (i := 1) (N := some 40) (v := ?_) (a' := ?_) #[true, true, false, false, false, false, false, false, false, false, false, false, false, false, false] rfl rfl (any_of HT_.out (by kernel_rfl)) (fun _ _ _ h => h) (Or.inl ⟨by rfl, ?_⟩) ?_ ?_
         rotate_left
         ·intro w'
          go_simp
          with_reducible rfl
         rotate_left
         ·simp only [Act.put, zA, zB, zC, i64_w, i32_w]
          rfl
         refine pure_ (i := 2) (N := some 41) (v := ?_) (a' := ?_) #[true, true, true, false, false, false, false, false, false, false, false, false, false, false, false] rfl rfl (any_of HT_.out (by kernel_rfl)) (fun _ _ _ h => h) (Or.inl ⟨by rfl, ?_⟩) ?_ ?_
         rotate_left
         ·intro w'
          go_simp
          with_reducible rfl
         rotate_left
         ·simp only [Act.put, zA, zB, zC, i64_w, i32_w]
          rfl
         refine pure_ (i := 3) (N := some 42) (v := ?_) (a' := ?_) #[true, true, true, true, false, false, false, false, false, false, false, false, false, false, false] rfl rfl (any_of HT_.out (by kernel_rfl)) (fun _ _ _ h => h) (Or.inl ⟨by rfl, ?_⟩) ?_ ?_
         rotate_left
         ·intro w'
          go_simp
          with_reducible rfl
         rotate_left
         ·simp only [Act.put, zA, zB, zC, i64_w, i32_w]
          rfl
         refine pure_ (i := 5) (N := some 44) (v := ?_) (a' := ?_) #[true, true, true, true, false, true, false, false, false, false, false, false, false, false, false] rfl rfl (any_of HT_.out (by kernel_rfl)) (fun _ _ _ h => h) (Or.inl ⟨by rfl, ?_⟩) ?_ ?_
         rotate_left
         ·intro w'
          go_simp
          with_reducible rfl
         rotate_left
         ·simp only [Act.put, zA, zB, zC, i64_w, i32_w]
          rfl
         refine pure_ (i := 6) (N := some 45) (v := ?_) (a' := ?_) #[true, true, true, true, false, true, true, false, false, false, false, false, false, false, false] rfl rfl (any_of HT_.out (by kernel_rfl)) (fun _ _ _ h => h) (Or.inl ⟨by rfl, ?_⟩) ?_ ?_
         rotate_left
         ·intro w'
          go_simp
          with_reducible rfl
         rotate_left
         ·simp only [Act.put, zA, zB, zC, i64_w, i32_w]
          rfl
         refine pure_ (i := 7) (N := some 46) (v := ?_) (a' := ?_) #[true, true, true, true, false, true, true, true, false, false, false, false, false, false, false] rfl rfl (any_of HT_.out (by kernel_rfl)) (fun _ _ _ h => h) (Or.inl ⟨by rfl, ?_⟩) ?_ ?_
         rotate_left
         ·intro w'
          go_simp
          with_reducible rfl
         rotate_left
         ·simp only [Act.put, zA, zB, zC, i64_w, i32_w]
          rfl
         refine pure_ (i := 8) (N := some 47) (v := ?_) (a' := ?_) #[true, true, true, true, false, true, true, true, true, false, false, false, false, false, false] rfl rfl (any_of HT_.out (by kernel_rfl)) (fun _ _ _ h => h) (Or.inl ⟨by rfl, ?_⟩) ?_ ?_
         rotate_left
         ·intro w'
          go_simp
          with_reducible rfl
         rotate_left
         ·simp only [Act.put, zA, zB, zC, i64_w, i32_w]
          rfl
         refine take_ (i := 4) (N := some 43) (v := ?_) (a' := ?_) #[true, true, true, true, true, true, true, true, true, false, false, false, false, false, false] rfl rfl (take_ofW HT_.out HW_.out (by kernel_rfl)) (fun _ _ _ h => h) (Or.inl ⟨by rfl, ?_⟩) hHeld ?_ ?_
         rotate_left
         ·rintro w' ⟨s0, s1, s2⟩
          go_simp
          with_reducible rfl
         rotate_left
         ·simp only [Act.put, zA, zB, zC, i64_w, i32_w]
          rfl
         refine take_ (i := 9) (N := some 48) (v := ?_) (a' := ?_) #[true, true, true, true, true, true, true, true, true, true, false, false, false, false, false] rfl rfl (take_ofW HT_.out HW_.out (by kernel_rfl)) (fun _ _ _ h => h) (Or.inl ⟨by rfl, ?_⟩) hHeld ?_ ?_
         rotate_left
         ·rintro w' ⟨s0, s1, s2⟩
          go_simp
          with_reducible rfl
         rotate_left
         ·simp only [Act.put, zA, zB, zC, i64_w, i32_w]
          rfl
         refine pure_ (i := 10) (N := some 49) (v := ?_) (a' := ?_) #[true, true, true, true, true, true, true, true, true, true, true, false, false, false, false] rfl rfl (any_of HT_.out (by kernel_rfl)) (fun _ _ _ h => h) (Or.inl ⟨by rfl, ?_⟩) ?_ ?_
         rotate_left
         ·intro w'
          go_simp
          with_reducible rfl
         rotate_left
         ·simp only [Act.put, zA, zB, zC, i64_w, i32_w]
          rfl
         refine take_ (i := 11) (N := some 50) (v := ?_) (a' := ?_) #[true, true, true, true, true, true, true, true, true, true, true, true, false, false, false] rfl rfl (take_ofW HT_.out HW_.out (by kernel_rfl)) (fun _ _ _ h => h) (Or.inl ⟨by rfl, ?_⟩) hHeld ?_ ?_
         rotate_left
         ·rintro w' ⟨s0, s1, s2⟩
          go_simp
          with_reducible rfl
         rotate_left
         ·simp only [Act.put, zA, zB, zC, i64_w, i32_w]
          rfl
         refine pure_ (i := 12) (N := some 51) (v := ?_) (a' := ?_) #[true, true, true, true, true, true, true, true, true, true, true, true, true, false, false] rfl rfl (any_of HT_.out (by kernel_rfl)) (fun _ _ _ h => h) (Or.inl ⟨by rfl, ?_⟩) ?_ ?_
         rotate_left
         ·intro w'
          go_simp
          with_reducible rfl
         rotate_left
         ·simp only [Act.put, zA, zB, zC, i64_w, i32_w]
          rfl
         refine pure_ (i := 13) (N := some 52) (v := ?_) (a' := ?_) #[true, true, true, true, true, true, true, true, true, true, true, true, true, true, false] rfl rfl (any_of HT_.out (by kernel_rfl)) (fun _ _ _ h => h) (Or.inl ⟨by rfl, ?_⟩) ?_ ?_
         rotate_left
         ·intro w'
          go_simp
          with_reducible rfl
         rotate_left
         ·simp only [Act.put, zA, zB, zC, i64_w, i32_w]
          rfl
         refine last_ (i := 14) (N := none) #[true, true, true, true, true, true, true, true, true, true, true, true, true, true, true] rfl rfl (one_of HT_.out (by kernel_rfl)) (by decide) (fun K hK => ?_)
         refine skip_ (w1 := ?_) (by rfl) rfl ?_ ?_
         rotate_left
         ·go_simp
          rfl
         refine hK.out _ _ ?_
         clear hK K
         refine done_ (done_of HT_.out (by kernel_rfl)) ?_
         try go_wp2
         go_roundg k2
         case measure => have := HK1.out; have := HK2.out; omega
         case rel => exact ⟨(y881), (wrap64 (x6_2 + 1)), (by first | rfl | (simp; done) | (simp [*]; done)), H', ⟨by have := HK1.out; have := HK2.out; omega⟩, ⟨mR HQ23.out⟩, ⟨by (with_reducible repeat (first | apply yB | apply yC | apply yD)); exact zP (zQ (p := ⟨go19, ((rd t875 x6_2) : Int).toNat, none⟩) (zP HO_5.out (fun k_ hk => (⟨hk, fun e_ => hk (by rw [e_]; rfl)⟩ : _ ∧ k_ ≠ go19))) (fun _ hk => hk.2) (.int .i64 (wrap64 ((rd x3_2 (rd t875 x6_2)) + 1)))) (fun _ hk => hk.1)⟩, ⟨by repeat (first | (with_reducible first | exact HB.out | apply yO | apply yN | apply yP | refine yQ ?_ GB19.out) | exact HB.out)⟩⟩
        ·rw [if_neg c15] at H
         have c15b0 : decide (x6_2 < (t875.length : Int)) = false := decide_eq_false c15
         clear c15
         have H' := yA H
         clear H
         obtain ⟨Ao24, co24, eo24⟩ := Kd.R_slice HO_5.out
         subst eo24
         go_wp2
         go_roundg k2
         case measure => have := HK1.out; have := HK2.out; omega
         case rel => exact ⟨(x3_2), (wrap64 (x4_1 + 1)), (by first | rfl | (simp; done) | (simp [*]; done)), H', ⟨by have := HK1.out; have := HK2.out; omega⟩, ⟨by (with_reducible repeat (first | apply yB | apply yC | apply yD)); exact zP HO_3.out (fun _ hk => trivial)⟩, ⟨mB HB.out⟩⟩
     ·replace c11 := Bool.eq_false_iff.mpr c11
      subst c11
      replace H := iF H
      obtain rfl := zU H
      have p872 : 0 ≤ (x4_1 : Int) := zG (by assumption)
      have q872 : x4_1 < (l0.length : Int) := zG (by assumption)
      obtain ⟨ad872, e872, hx872_0, hx872_1, hx872_2, hx872_3⟩ := at_T71 HR0.out x4_1 p872 q872
      cases e872
      try replace hx872_0 := (HB.out.cell (zE w _ hx872_0)).trans hx872_0
      try replace hx872_1 := (HB.out.cell (zE w _ hx872_1)).trans hx872_1
      try replace hx872_2 := (HB.out.cell (zE w _ hx872_2)).trans hx872_2
      try replace hx872_3 := (HB.out.cell (zE w _ hx872_3)).trans hx872_3
      replace p872 := eq_true p872
      replace q872 := eq_true q872
      go_wp2_with (first | ((with_reducible refine zS (f := 116) rfl ?_); refine goesL_ (some 26) rfl rfl Try.func116 (by kernel_rfl) rfl #[.agg #[.int .i64 ((rd_T71 l0 x4_1).f0), .int .i64 ((rd_T71 l0 x4_1).f1), .int .i64 ((rd_T71 l0 x4_1).f2), .int .i64 ((rd_T71 l0 x4_1).f3)], .int .i64 x4_1] rfl (by (try simp only [zI, zJ, zK]); first | done | rfl | (simp only [zL, zM]; rfl)) ?_; (with_reducible refine (spec_l16Node.calls k1 ((rd_T71 l0 x4_1).f0) ((rd_T71 l0 x4_1).f1) ((rd_T71 l0 x4_1).f2) ((rd_T71 l0 x4_1).f3) x4_1 false _ A10.out).mono ?_); rintro e w25 ⟨rfl, hb⟩; refine ⟨_, rfl, ?_⟩; replace HO_3 := yA (yK (mR HO_3.out) hb); replace HB := yA (zD (mB HB.out) hb); (try clear hb); (try clear hb2); (try clear hk); (try clear hi)))
      go_ret
      exact ⟨by first | rfl | (simp [errW_none, errW_some] <;> rfl) | (simp [*, errW_none, errW_some] <;> rfl), by repeat (first | (with_reducible first | exact HB.out | apply yO | apply yN | apply yP) | exact HB.out)⟩
    ·rw [if_neg c8] at H
     have c8b0 : decide (x4_1 < (l0.length : Int)) = false := decide_eq_false c8
     clear c8
     have H' := yA H
     clear H
     go_wp2
     go_loopg [7] k1 (fun kq v7 w' => ∃ (x7_2 : Int), v7 = .int .i64 x7_2 ∧ Aside0 (spec_IsFormula.l2 kq l0 x3_1 x7_2 = some r) ∧ Aside0 (kq ≤ k1) ∧ Aside0 (Kd.R (Kd.int .i64) 3 w' w.heap.size (fun _ => True) v870 x3_1) ∧ Aside0 (Below w.heap.size w w'))
     case atStart => exact ⟨(0), (by first | rfl | (simp; done) | (simp [*]; done)), H', ⟨zT _⟩, ⟨mR HO_3.out⟩, ⟨mB HB.out⟩⟩
     case round =>
      clear H'
      (try clear c1);(try clear p1);(try clear q1);(try clear hx1);(try clear hf1);(try clear p2);(try clear c3);(try clear c4);(try clear c4b0);(try clear c4b1);(try clear c5);(try clear c5b0);(try clear c5b1);(try clear p6);(try clear c8);(try clear c8b0);(try clear p8);(try clear q8);(try clear hx8);(try clear c9);(try clear c9b0);(try clear c11);(try clear c15);(try clear c15b0);(try clear c16);(try clear c16b0);(try clear c17);(try clear c17b0);(try clear c18);(try clear c18b0);(try clear p19);(try clear q19);(try clear hx19);(try clear hf19);(try clear hx19_0);(try clear hx872_0);(try clear hx872_1);(try clear hx872_2);(try clear hx872_3);(try clear hx874_0);(try clear hx874_1);(try clear hx874_2);(try clear hx874_3);(try clear hx878_0);(try clear hx879_0);(try clear hx880_0);(try clear p19);(try clear p2);(try clear p8);(try clear p872);(try clear p874);(try clear p878);(try clear p879);(try clear p880);(try clear q19);(try clear q8);(try clear q872);(try clear q874);(try clear q878);(try clear q879);(try clear q880)
      obtain ⟨x7_2, rfl, HA, HK2, HO_3, HB⟩ := hrel
      cases gk with
      | zero => exact absurd HA.out (by simp [spec_IsFormula.l2])
      | succ k2 =>
       have H := HA.out
       clear HA
       simp only [spec_IsFormula.l2] at H
       by_cases c26 : x7_2 < (wrap64 ((l0.length : Int) - 1))
       ·rw [if_pos c26] at H
        have c26b0 : decide (x7_2 < (wrap64 ((l0.length : Int) - 1))) = true := zH c26
        clear c26
        obtain ⟨c27, H⟩ := iP H
        have c27b0 : decide (0 ≤ x7_2) = true := zH c27
        clear c27
        obtain ⟨c28, H⟩ := iP H
        have c28b0 : decide (x7_2 < (x3_1.length : Int)) = true := zH c28
        clear c28
        by_cases c29 : (rd x3_1 x7_2) = 1
        ·rw [if_pos c29] at H
         have c29b0 : ((rd x3_1 x7_2) == 1) = true := beq_iff_eq.mpr c29
         have c29b1 : ((rd x3_1 x7_2) != 1) = false := bne_eq_false_iff_eq.mpr c29
         clear c29
         have H' := yA H
         clear H
         obtain ⟨Ao30, co30, eo30⟩ := Kd.R_slice HO_3.out
         subst eo30
         have p882 : 0 ≤ (x7_2 : Int) := zG (by assumption)
         have q882 : x7_2 < (x3_1.length : Int) := zG (by assumption)
         obtain ⟨ad882, e882, hx882_0⟩ := Kd.at_int (zN HO_3.out).2.2 x7_2 p882 q882
         cases e882
         replace p882 := eq_true p882
         replace q882 := eq_true q882
         go_wp2
         go_roundg k2
         case measure => have := HK1.out; have := HK2.out; omega
         case rel => exact ⟨(wrap64 (x7_2 + 1)), (by first | rfl | (simp; done) | (simp [*]; done)), H', ⟨by have := HK1.out; have := HK2.out; omega⟩, ⟨mR HO_3.out⟩, ⟨mB HB.out⟩⟩
        ·rw [if_neg c29] at H
         have c29b0 : ((rd x3_1 x7_2) == 1) = false := beq_eq_false_iff_ne.mpr c29
         have c29b1 : ((rd x3_1 x7_2) != 1) = true := bne_iff_ne.mpr c29
         obtain rfl := zU H
         obtain ⟨Ao31, co31, eo31⟩ := Kd.R_slice HO_3.out
         subst eo31
         have p882 : 0 ≤ (x7_2 : Int) := zG (by assumption)
         have q882 : x7_2 < (x3_1.length : Int) := zG (by assumption)
         obtain ⟨ad882, e882, hx882_0⟩ := Kd.at_int (zN HO_3.out).2.2 x7_2 p882 q882
         cases e882
         replace p882 := eq_true p882
         replace q882 := eq_true q882
         go_wp2
         go_ret
         exact ⟨by first | rfl | (simp [errW_none, errW_some] <;> rfl) | (simp [*, errW_none, errW_some] <;> rfl), by repeat (first | (with_reducible first | exact HB.out | apply yO | apply yN | apply yP) | exact HB.out)⟩
       ·rw [if_neg c26] at H
        have c26b0 : decide (x7_2 < (wrap64 ((l0.length : Int) - 1))) = false := decide_eq_false c26
        clear c26
        obtain rfl := zU H
        go_wp2
        go_ret
        exact ⟨by first | rfl | (simp [errW_none, errW_some] <;> rfl) | (simp [*, errW_none, errW_some] <;> rfl), by repeat (first | (with_reducible first | exact HB.out | apply yO | apply yN | apply yP) | exact HB.out)⟩
 ·replace c3 := Bool.eq_false_iff.mpr c3
  subst c3
  replace H := iF H
  obtain rfl := zU H
  go_enter Try.func93, Try.ntmps93
  go_wp2_with (first | ((with_reducible refine zS (f := 39) rfl ?_); refine goesL_ (some 10) rfl rfl Try.func39 (by kernel_rfl) rfl #[.int .i64 (l0.length : Int), .int .i64 1, .int .i64 40] rfl (by (try simp only [zI, zJ, zK]); first | done | rfl | (simp only [zL, zM]; rfl)) ?_; (with_reducible refine (spec_l1In.calls (l0.length : Int) 1 40 false _ A2.out).mono ?_); rintro e w' ⟨rfl, ⟨nd, rfl⟩⟩; refine ⟨_, rfl, ?_⟩))
  go_ret
  exact ⟨by first | rfl | (simp [errW_none, errW_some] <;> rfl) | (simp [*, errW_none, errW_some] <;> rfl), by repeat (first | (with_reducible first | exact HB.out | apply yO | apply yN | apply yP) | exact HB.out)⟩

end Go.Proofs.Ytmkeicahnnlalaa.Q
