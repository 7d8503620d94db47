-- written by a program of this session
-- squeezed
-- compact
-- shrunk
import Derived.Test.YtgopcliohchkmaaQ0
import Derived.Test.YtgopcliohchkmaaQ77
namespace Go.Proofs.Ytgopcliohchkmaa.Q
open Go.RowKit Go.Proofs.YtgopcliohchkmaaW.PrintWords Go.Proofs.YtgopcliohchkmaaW.PrintLast Go.Proofs.YtgopcliohchkmaaW.PrintMore
set_option linter.unusedVariables false
set_option linter.unusedSimpArgs false

/-! ### impl_classes: function 105 -/
mutual
def impl_classes.l0 : Nat → List (List Int) → List (List Int) → List Int → Int → Int → Option (List Int)
 | 0, _, _, _, _, _ => none
 | k + 1, x0, x5, x18, x19, x20 => if x20 < x19 then (if 0 ≤ x20 then (if x20 < (x18.length : Int) then (if x5.length < 5864062014805 then (impl_classes.l0 k x0 (x5 ++ [(([rd x18 x20] : List Int))]) x18 x19 (wrap64 (x20 + 1))) else (none)) else (none)) else (none)) else ((impl_numbered.f k x5).bind fun bt877 => (impl_classes.l1 k x0 x5 bt877.1 bt877.2))
def impl_classes.l1 : Nat → List (List Int) → List (List Int) → List Int → Int → Option (List Int)
 | 0, _, _, _, _ => none
 | k + 1, x0, x5, x8, x9 => if 0 ≤ (x5.length : Int) then (impl_classes.l2 k x0 (x5.take (0 : Int).toNat) x8 x9 x0 (x0.length : Int) 0) else (none)
def impl_classes.l2 : Nat → List (List Int) → List (List Int) → List Int → Int → List (List Int) → Int → Int → Option (List Int)
 | 0, _, _, _, _, _, _, _ => none
 | k + 1, x0, x5, x8, x9, x37, x38, x39 => if x39 < x38 then (if 0 ≤ x39 then (if x39 < (x37.length : Int) then (if x39 < (x8.length : Int) then (impl_classes.l3 k x0 x5 x8 x9 (([rd x8 x39] : List Int)) x37 x38 x39 (rd_L1 x37 x39) ((rd_L1 x37 x39).length : Int) 0) else (none)) else (none)) else (none)) else ((impl_numbered.f k x5).bind fun bt884 => (if bt884.2 = x9 then (some bt884.1) else (impl_classes.l1 k x0 x5 bt884.1 bt884.2)))
def impl_classes.l3 : Nat → List (List Int) → List (List Int) → List Int → Int → List Int → List (List Int) → Int → Int → List Int → Int → Int → Option (List Int)
 | 0, _, _, _, _, _, _, _, _, _, _, _ => none
 | k + 1, x0, x5, x8, x9, x12, x37, x38, x39, x49, x50, x51 => if x51 < x50 then (if 0 ≤ x51 then (if x51 < (x49.length : Int) then (if 0 ≤ (rd x49 x51) then (if (rd x49 x51) < (x8.length : Int) then (if x12.length < 17592186044416 then (impl_classes.l3 k x0 x5 x8 x9 (x12 ++ [rd x8 (rd x49 x51)]) x37 x38 x39 x49 x50 (wrap64 (x51 + 1))) else (none)) else (none)) else (none)) else (none)) else (none)) else (if x5.length < 5864062014805 then (impl_classes.l2 k x0 (x5 ++ [x12]) x8 x9 x37 x38 (wrap64 (x39 + 1))) else (none))
end
def impl_classes.f (k : Nat) (l0 : List (List Int)) (l1 : List Int) : Option (List Int) := impl_classes.l0 k l0 (([] : List (List Int))) l1 (l1.length : Int) 0
theorem impl_classes.mono_l : ∀ k, (∀ y0 y1 y2 y3 y4, LeO (impl_classes.l0 k y0 y1 y2 y3 y4) (impl_classes.l0 (k + 1) y0 y1 y2 y3 y4)) ∧ (∀ y0 y1 y2 y3, LeO (impl_classes.l1 k y0 y1 y2 y3) (impl_classes.l1 (k + 1) y0 y1 y2 y3)) ∧ (∀ y0 y1 y2 y3 y4 y5 y6, LeO (impl_classes.l2 k y0 y1 y2 y3 y4 y5 y6) (impl_classes.l2 (k + 1) y0 y1 y2 y3 y4 y5 y6)) ∧ (∀ y0 y1 y2 y3 y4 y5 y6 y7 y8 y9 y10, LeO (impl_classes.l3 k y0 y1 y2 y3 y4 y5 y6 y7 y8 y9 y10) (impl_classes.l3 (k + 1) y0 y1 y2 y3 y4 y5 y6 y7 y8 y9 y10))
 | 0 => ⟨fun _ _ _ _ _ r h => by simp [impl_classes.l0] at h, fun _ _ _ _ r h => by simp [impl_classes.l1] at h, fun _ _ _ _ _ _ _ r h => by simp [impl_classes.l2] at h, fun _ _ _ _ _ _ _ _ _ _ _ r h => by simp [impl_classes.l3] at h⟩
 | k + 1 => by
  obtain ⟨ih0, ih1, ih2, ih3⟩ := impl_classes.mono_l k
  refine ⟨?_, ?_, ?_, ?_⟩ <;> intros <;> first | unfold impl_classes.l0 | unfold impl_classes.l1 | unfold impl_classes.l2 | unfold impl_classes.l3
  all_goals repeat' (with_reducible first | exact ih0 _ _ _ _ _ | exact ih1 _ _ _ _ | exact ih2 _ _ _ _ _ _ _ | exact ih3 _ _ _ _ _ _ _ _ _ _ _ | exact impl_numbered.mono _ _ | exact LeO.refl _ | exact LeO.none _ | refine LeO.ite ?_ ?_ | refine LeO.bind ?_ fun _ => ?_)
theorem impl_classes.mono : ∀ a0 a1 k, LeO (impl_classes.f k a0 a1) (impl_classes.f (k + 1) a0 a1) := by
 intro a0 a1 k
 obtain ⟨ih0, ih1, ih2, ih3⟩ := impl_classes.mono_l k
 unfold impl_classes.f
 repeat' (with_reducible first | exact ih0 _ _ _ _ _ | exact ih1 _ _ _ _ | exact ih2 _ _ _ _ _ _ _ | exact ih3 _ _ _ _ _ _ _ _ _ _ _ | exact impl_numbered.mono _ _ | exact LeO.refl _ | exact LeO.none _ | refine LeO.ite ?_ ?_ | refine LeO.bind ?_ fun _ => ?_)
set_option maxHeartbeats 8000000 in
set_option maxRecDepth 100000 in
theorem impl_classes.calls (k : Nat) (A0 : Option Addr) (c0 : Nat) (l0 : List (List Int)) (A1 : Option Addr) (c1 : Nat) (l1 : List Int) (r : List Int) (w : World) (hr0 : Kd.C (Kd.slice 3 (Kd.int .i64)) w A0 l0.length l0) (hc0 : l0.length ≤ c0) (hr1 : Kd.C (Kd.int .i64) w A1 l1.length l1) (hc1 : l1.length ≤ c1) (h : impl_classes.f k l0 l1 = some r) :
  Calls Try.prog 105 #[.slice A0 l0.length c0, .slice A1 l1.length c1] w fun e w' => ∃ v0_ : Value, e = .returned (v0_) ∧ Kd.R (Kd.int .i64) 3 w' w.heap.size (fun _ => True) v0_ r ∧ Below w.heap.size w w' := by
 have HR0 := yA hr0
 have HC0 := yA hc0
 clear hr0 hc0
 have HR1 := yA hr1
 have HC1 := yA hc1
 clear hr1 hc1
 have HB := yA (zV w.heap.size w)
 have H : (impl_classes.l0 k l0 (([] : List (List Int))) l1 (l1.length : Int) 0) = some r := h
 clear h
 (first | ((with_reducible replace H := bS H); obtain ⟨y867, Ny867, H⟩ := H) | (obtain ⟨y867, Ny867⟩ : ∃ y_ : List (List Int), y_ = (([] : List (List Int))) := ⟨_, rfl⟩; rw [← Ny867] at H; replace Ny867 := yA Ny867))
 have H' := yA H
 clear H
 go_enter Try.func105, Try.ntmps105
 go_wp2_with (first | ((with_reducible refine gate_dst (N := 17) rfl ?_); refine Kd.S_lit (Kd.slice 3 (Kd.int .i64)) _ 38 ?hg (N := 17) ?hd (xs := ([] : List (List Int))) (inner := []) (ok := fun _ => True) (okp := fun _ => True) ?hr ?hp (fun _ hk => hk) trivial (zV _ _) (zT _) (by simp) ?_; (case hd => rfl); (case hg => rfl); (case hr => first | (go_simp; done) | (go_simp; rfl)); (case hp => exact (Reps.none _ _)); intro v868 w3 ho4 hb hg_ hnew_; clear hg_ hnew_; (first | rw [← Ny867.out] at ho4 | (simp only [Int.reduceToNat] at ho4; rw [← Ny867.out] at ho4)); have HO869 := yA (Kd.S_lower ho4 (yX (mB HB.out))); replace HB := yA (zD (mB HB.out) hb); clear hb ho4))
 go_loopg [5, 20] k (fun kq v5 v20 w' => ∃ (x5_1 : List (List Int)) (x20_1 : Int), v20 = .int .i64 x20_1 ∧ Aside0 (impl_classes.l0 kq l0 x5_1 l1 (l1.length : Int) x20_1 = some r) ∧ Aside0 (kq ≤ k) ∧ Aside0 (Kd.S (Kd.slice 3 (Kd.int .i64)) 38 w' w.heap.size (fun _ => True) v5 x5_1) ∧ Aside0 (Below w.heap.size w w'))
 case atStart => exact ⟨(y867), (0), (by first | rfl | (simp; done) | (simp [*]; done)), H', ⟨zT _⟩, ⟨mS HO869.out⟩, ⟨mB HB.out⟩⟩
 case round =>
  clear H'
  (try clear c1);(try clear p2)
  obtain ⟨x5_1, x20_1, rfl, HA, HK1, HO_5, HB⟩ := hrel
  cases gk with
  | zero => exact absurd HA.out (by simp [impl_classes.l0])
  | succ k1 =>
   have H := HA.out
   clear HA
   simp only [impl_classes.l0] at H
   by_cases c5 : x20_1 < (l1.length : Int)
   ·rw [if_pos c5] at H
    have c5b0 : decide (x20_1 < (l1.length : Int)) = true := zH c5
    clear c5
    obtain ⟨c6, H⟩ := iP H
    have c6b0 : decide (0 ≤ x20_1) = true := zH c6
    clear c6
    obtain ⟨c7, H⟩ := iP H
    have c7b0 : decide (x20_1 < (l1.length : Int)) = true := zH c7
    clear c7
    (first | ((with_reducible replace H := bS H); obtain ⟨y871, Ny871, H⟩ := H) | (obtain ⟨y871, Ny871⟩ : ∃ y_ : List Int, y_ = (([rd l1 x20_1] : List Int)) := ⟨_, rfl⟩; rw [← Ny871] at H; replace Ny871 := yA Ny871))
    obtain ⟨c8, H⟩ := iP H
    have LMc8 := yA c8
    clear c8
    (first | ((with_reducible replace H := bS H); obtain ⟨y874, Ny874, H⟩ := H) | (obtain ⟨y874, Ny874⟩ : ∃ y_ : List (List Int), y_ = (x5_1 ++ [y871]) := ⟨_, rfl⟩; rw [← Ny874] at H; replace Ny874 := yA Ny874))
    have H' := yA H
    clear H
    have p870 : 0 ≤ (x20_1 : Int) := zG (by assumption)
    have q870 : x20_1 < (l1.length : Int) := zG (by assumption)
    obtain ⟨ad870, e870, hx870_0⟩ := Kd.at_int HR1.out x20_1 p870 q870
    cases e870
    try replace hx870_0 := (HB.out.cell (zE w _ hx870_0)).trans hx870_0
    replace p870 := eq_true p870
    replace q870 := eq_true q870
    go_wp2_with (first | ((with_reducible refine gate_dst (N := 26) rfl ?_); refine Kd.R_lit (Kd.int .i64) _ 3 ?hg (N := 26) ?hd (xs := ([rd l1 x20_1] : List Int)) (inner := [.int .i64 (rd l1 x20_1)]) (ok := fun _ => True) (okp := fun _ => True) ?hr ?hp (fun _ hk => hk) trivial (zV _ _) (zT _) (by simp) ?_; (case hd => rfl); (case hg => rfl); (case hr => first | (go_simp; done) | (go_simp; rfl)); (case hp => exact (Reps.one (show Kd.M (Kd.int .i64) _ _ _ (rd l1 x20_1) [.int .i64 (rd l1 x20_1)] from rfl) (Reps.none _ _))); intro v872 w9 ho10 hb hg_ hnew_; clear hg_ hnew_; (first | rw [← Ny871.out] at ho10 | (simp only [Int.reduceToNat] at ho10; rw [← Ny871.out] at ho10)); replace HO_5 := yA (Kd.S_elder' (mS HO_5.out) (yY ho10) hb); have HO873 := yA (Kd.R_lower ho10 (yX (mB HB.out))); replace HB := yA (zD (mB HB.out) hb); clear hb ho10; obtain ⟨Ao12, co12, eo12⟩ := Kd.R_slice HO873.out; subst eo12) | ((with_reducible refine gate_builtin (b := .append) (xs := #[.tmp 24, .tmp 27]) rfl ?_); at_builtin; refine Kd.S_append (Kd.slice 3 (Kd.int .i64)) (w0 := w) w.heap.size rfl (.tmp 24) (.tmp 27) 22 38 (.slice none 0 0) 24 rfl Try.underlying22 info38 rfl (by decide) (by omega) u5 x5_1 y871 [.slice Ao12 y871.length co12] (fun _ => True) (fun k_ => some k_ = (.slice Ao12 y871.length co12 : Value).ownBlock) rfl rfl ?aP (fun k_ hk_ => ((zP (ok' := fun k_ => ((fun _ => True)) k_ ∧ some k_ ≠ (u5 : Value).ownBlock) (Kd.R_apart' (HO873.out) (Kd.S_typed HO_5.out) (by decide)) (fun k_ hk => ⟨trivial, hk.2⟩))).1 k_ hk_.symm) ?aF ?aO ?aB ?aS ?aL ?_; (case aP => exact Kd.M_row (zP (Kd.R_tight rfl (zP (ok' := fun k_ => ((fun _ => True)) k_ ∧ some k_ ≠ (u5 : Value).ownBlock) (Kd.R_apart' (HO873.out) (Kd.S_typed HO_5.out) (by decide)) (fun k_ hk => ⟨trivial, hk.2⟩))) (fun _ h_ => h_))); (case aB => exact (mB HB.out)); (case aF => exact (fun _ _ => trivial)); (case aO => exact (mS (Kd.S_mono HO_5.out (fun k_ hk => ⟨trivial, fun e_ => hk.2 e_⟩)))); (case aS => exact (yX (mB HB.out))); (case aL => have := LMc8.out; omega); intro v875 w11 ho hb hg hat; rw [← Ny874.out] at ho; replace HB := yA (hb); have HO876 := yA (ho); clear HO_5 HO873; clear ho hb hg hat))
    go_roundg k1
    case measure => have := HK1.out; omega
    case rel => exact ⟨(y874), (wrap64 (x20_1 + 1)), (by first | rfl | (simp; done) | (simp [*]; done)), H', ⟨by have := HK1.out; omega⟩, ⟨mS HO876.out⟩, ⟨mB HB.out⟩⟩
   ·rw [if_neg c5] at H
    have c5b0 : decide (x20_1 < (l1.length : Int)) = false := decide_eq_false c5
    clear c5
    replace H := Option.bind_eq_some_iff.mp H
    obtain ⟨⟨t877, t878⟩, A130, H⟩ := H
    replace H : (impl_classes.l1 k1 l0 x5_1 t877 t878) = some r := H
    have A13 := yA A130
    clear A130
    have H' := yA H
    clear H
    obtain ⟨Ao14, co14, eo14⟩ := Kd.S_slice HO_5.out
    subst eo14
    go_wp2_with (first | ((with_reducible refine zS (f := 106) rfl ?_); refine goesL_ (some 32) rfl rfl Try.func106 (by kernel_rfl) rfl #[.slice Ao14 x5_1.length co14] rfl (by (try simp only [zI, zJ, zK]); first | done | rfl | (simp only [zL, zM]; rfl)) ?_; (with_reducible refine (impl_numbered.calls k1 _ _ x5_1 t877 t878 _ ?side1 ?side2 A13.out).mono ?_); (case side1 => exact mC ((Kd.S_reads' HO_5.out).2.2)); (case side2 => exact (Kd.S_reads' HO_5.out).2.1); rintro e w15 ⟨v879, rfl, ho0, hb⟩; refine ⟨_, rfl, ?_⟩; replace HO_5 := yA (Kd.S_elder' (mS HO_5.out) (yY ho0) hb); have HO880 := yA (Kd.R_lower ho0 (yX (mB HB.out))); replace HB := yA (zD (mB HB.out) hb); (try clear hb); (try clear hb2); (try clear hk); (try clear hi); (try clear ho0)))
    go_loopg [5, 8, 9] k1 (fun kq v5 v8 v9 w' => ∃ (x5_2 : List (List Int)) (x8_2 : List Int) (x9_2 : Int), v9 = .int .i64 x9_2 ∧ Aside0 (impl_classes.l1 kq l0 x5_2 x8_2 x9_2 = some r) ∧ Aside0 (kq ≤ k1) ∧ Aside0 (Kd.S (Kd.slice 3 (Kd.int .i64)) 38 w' w.heap.size (fun k_ => some k_ ≠ (v8 : Value).ownBlock) v5 x5_2) ∧ Aside0 (Kd.R (Kd.int .i64) 3 w' w.heap.size (fun _ => True) v8 x8_2) ∧ Aside0 (Below w.heap.size w w'))
    case atStart => exact ⟨(x5_1), (t877), (t878), (by first | rfl | (simp; done) | (simp [*]; done)), H', ⟨zT _⟩, ⟨by (with_reducible repeat (first | apply yH | apply yI | apply yJ)); exact Kd.S_mono HO_5.out (fun _ hk => hk.2)⟩, ⟨mR HO880.out⟩, ⟨mB HB.out⟩⟩
    case round =>
     clear H'
     (try clear c1);(try clear p2);(try clear c5);(try clear c5b0);(try clear c6);(try clear c6b0);(try clear p6);(try clear c7);(try clear c7b0);(try clear c8);(try clear p8);(try clear q8);(try clear hx8);(try clear c10);(try clear hx870_0);(try clear p2);(try clear p870);(try clear q870)
     obtain ⟨x5_2, x8_2, x9_2, rfl, HA, HK2, HO_5, HO_8, HB⟩ := hrel
     cases gk with
     | zero => exact absurd HA.out (by simp [impl_classes.l1])
     | succ k2 =>
      have H := HA.out
      clear HA
      simp only [impl_classes.l1] at H
      obtain ⟨c16, H⟩ := iP H
      have c16b0 := eq_true c16
      have c16b1 : decide (0 ≤ (x5_2.length : Int)) = true := zH c16
      clear c16
      (first | ((with_reducible replace H := bS H); obtain ⟨y881, Ny881, H⟩ := H) | (obtain ⟨y881, Ny881⟩ : ∃ y_ : List (List Int), y_ = (x5_2.take (0 : Int).toNat) := ⟨_, rfl⟩; rw [← Ny881] at H; replace Ny881 := yA Ny881))
      have H' := yA H
      clear H
      obtain ⟨Ao17, co17, eo17⟩ := Kd.S_slice HO_5.out
      subst eo17
      have q18 : (0 : Int) ≤ ((x5_2.length : Int) : Int) := zG (by assumption)
      obtain ⟨i018, hi018, _, hsz18, _⟩ := info_parts info38
      have hcut18 := cut_to (P := Try.prog) 22 38 .i64 Try.underlying22 hi018 Ao17 x5_2.length co17 0 (by omega) q18 (Kd.S_reads' HO_5.out).2.1
      have hr18 := Kd.S_take (m := (0 : Int).toNat) HO_5.out (by omega)
      have hy18 : y881.length = (0 : Int).toNat := (by rw [Ny881.out, zM]; omega)
      rw [← Ny881.out] at hr18
      rw [← hy18] at hr18 hcut18
      clear hy18 hi018 hsz18 HO_5
      have HO883 := yA hr18
      clear hr18
      replace q18 := eq_true q18
      go_wp2
      go_loopg [5, 39] k2 (fun kq v5 v39 w' => ∃ (x5_3 : List (List Int)) (x39_3 : Int), v39 = .int .i64 x39_3 ∧ Aside0 (impl_classes.l2 kq l0 x5_3 x8_2 x9_2 l0 (l0.length : Int) x39_3 = some r) ∧ Aside0 (kq ≤ k2) ∧ Aside0 (Kd.S (Kd.slice 3 (Kd.int .i64)) 38 w' w.heap.size (fun k_ => some k_ ≠ (u8 : Value).ownBlock) v5 x5_3) ∧ Aside0 (Kd.R (Kd.int .i64) 3 w' w.heap.size (fun _ => True) u8 x8_2) ∧ Aside0 (Below w.heap.size w w'))
      case atStart => exact ⟨(y881), (0), (by first | rfl | (simp; done) | (simp [*]; done)), H', ⟨zT _⟩, ⟨mS HO883.out⟩, ⟨mR HO_8.out⟩, ⟨mB HB.out⟩⟩
      case round =>
       clear H'
       (try clear c1);(try clear q1);(try clear p2);(try clear c5);(try clear c5b0);(try clear c6);(try clear c6b0);(try clear p6);(try clear c7);(try clear c7b0);(try clear c8);(try clear p8);(try clear q8);(try clear hx8);(try clear c10);(try clear c16);(try clear c16b0);(try clear c16b1);(try clear q18);(try clear hx870_0);(try clear p2);(try clear p6);(try clear p8);(try clear p870);(try clear q18);(try clear q8);(try clear q870)
       obtain ⟨x5_3, x39_3, rfl, HA, HK3, HO_5, HO_8, HB⟩ := hrel
       cases gk with
       | zero => exact absurd HA.out (by simp [impl_classes.l2])
       | succ k3 =>
        have H := HA.out
        clear HA
        simp only [impl_classes.l2] at H
        by_cases c19 : x39_3 < (l0.length : Int)
        ·rw [if_pos c19] at H
         have c19b0 : decide (x39_3 < (l0.length : Int)) = true := zH c19
         clear c19
         obtain ⟨c20, H⟩ := iP H
         have c20b0 : decide (0 ≤ x39_3) = true := zH c20
         clear c20
         obtain ⟨c21, H⟩ := iP H
         have c21b0 : decide (x39_3 < (l0.length : Int)) = true := zH c21
         clear c21
         obtain ⟨c22, H⟩ := iP H
         have c22b0 : decide (x39_3 < (x8_2.length : Int)) = true := zH c22
         clear c22
         (first | ((with_reducible replace H := bS H); obtain ⟨y890, Ny890, H⟩ := H) | (obtain ⟨y890, Ny890⟩ : ∃ y_ : List Int, y_ = (([rd x8_2 x39_3] : List Int)) := ⟨_, rfl⟩; rw [← Ny890] at H; replace Ny890 := yA Ny890))
         have H' := yA H
         clear H
         have p888 : 0 ≤ (x39_3 : Int) := zG (by assumption)
         have q888 : x39_3 < (l0.length : Int) := zG (by assumption)
         obtain ⟨ad888, A888_0, c888_0, e888, hx888_0, hl888_0, hi888_0⟩ := at_L1 HR0.out x39_3 p888 q888
         cases e888
         try replace hx888_0 := (HB.out.cell (zE w _ hx888_0)).trans hx888_0
         have HR888_0 := yA hi888_0
         have HC888_0 := yA hl888_0
         clear hi888_0 hl888_0
         replace p888 := eq_true p888
         replace q888 := eq_true q888
         obtain ⟨Ao23, co23, eo23⟩ := Kd.R_slice HO_8.out
         subst eo23
         have p889 : 0 ≤ (x39_3 : Int) := zG (by assumption)
         have q889 : x39_3 < (x8_2.length : Int) := zG (by assumption)
         obtain ⟨ad889, e889, hx889_0⟩ := Kd.at_int (zN HO_8.out).2.2 x39_3 p889 q889
         cases e889
         replace p889 := eq_true p889
         replace q889 := eq_true q889
         go_wp2_with (first | ((with_reducible refine gate_dst (N := 48) rfl ?_); refine Kd.R_lit (Kd.int .i64) _ 3 ?hg (N := 48) ?hd (xs := ([rd x8_2 x39_3] : List Int)) (inner := [.int .i64 (rd x8_2 x39_3)]) (ok := fun _ => True) (okp := fun _ => True) ?hr ?hp (fun _ hk => hk) trivial (zV _ _) (zT _) (by simp) ?_; (case hd => rfl); (case hg => rfl); (case hr => first | (go_simp; done) | (go_simp; rfl)); (case hp => exact (Reps.one (show Kd.M (Kd.int .i64) _ _ _ (rd x8_2 x39_3) [.int .i64 (rd x8_2 x39_3)] from rfl) (Reps.none _ _))); intro v891 w24 ho25 hb hg_ hnew_; clear hg_ hnew_; (first | rw [← Ny890.out] at ho25 | (simp only [Int.reduceToNat] at ho25; rw [← Ny890.out] at ho25)); replace HO_5 := yA (Kd.S_elder' (mS HO_5.out) (yY ho25) hb); have HO892 := yA (Kd.R_lower (Kd.R_new' ho25 (yZ (mR HO_8.out))) (yX (mB HB.out))); replace HO_8 := yA (zO (mR HO_8.out) (yY ho25) hb); replace HB := yA (zD (mB HB.out) hb); clear hb ho25))
         go_loopg [12, 51] k3 (fun kq v12 v51 w' => ∃ (x12_4 : List Int) (x51_4 : Int), v51 = .int .i64 x51_4 ∧ Aside0 (impl_classes.l3 kq l0 x5_3 x8_2 x9_2 x12_4 l0 (l0.length : Int) x39_3 (rd_L1 l0 x39_3) ((rd_L1 l0 x39_3).length : Int) x51_4 = some r) ∧ Aside0 (kq ≤ k3) ∧ Aside0 (Kd.S (Kd.slice 3 (Kd.int .i64)) 38 w' w.heap.size (fun k_ => some k_ ≠ ((.slice (some ad889) x8_2.length co23) : Value).ownBlock ∧ some k_ ≠ (v12 : Value).ownBlock) u5 x5_3) ∧ Aside0 (Kd.R (Kd.int .i64) 3 w' w.heap.size (fun k_ => some k_ ≠ (v12 : Value).ownBlock) (.slice (some ad889) x8_2.length co23) x8_2) ∧ Aside0 (Kd.R (Kd.int .i64) 3 w' w.heap.size (fun k_ => some k_ ≠ ((.slice (some ad889) x8_2.length co23) : Value).ownBlock) v12 x12_4) ∧ Aside0 (Below w.heap.size w w'))
         case atStart => exact ⟨(y890), (0), (by first | rfl | (simp; done) | (simp [*]; done)), H', ⟨zT _⟩, ⟨mS HO_5.out⟩, ⟨by (with_reducible repeat (first | apply yB | apply yC | apply yD)); exact zP HO_8.out (fun _ hk => hk.2)⟩, ⟨by (with_reducible repeat (first | apply yB | apply yC | apply yD)); exact zP HO892.out (fun _ hk => hk.2)⟩, ⟨mB HB.out⟩⟩
         case round =>
          clear H'
          (try clear c1);(try clear q1);(try clear c2);(try clear p2);(try clear c5);(try clear c5b0);(try clear c6);(try clear c6b0);(try clear p6);(try clear c7);(try clear c7b0);(try clear c8);(try clear p8);(try clear q8);(try clear hx8);(try clear c10);(try clear c16);(try clear c16b0);(try clear c16b1);(try clear q18);(try clear c19);(try clear c19b0);(try clear c20);(try clear c20b0);(try clear c21);(try clear c21b0);(try clear c22);(try clear c22b0);(try clear hx870_0);(try clear hx888_0);(try clear hx889_0);(try clear p2);(try clear p6);(try clear p8);(try clear p870);(try clear p888);(try clear p889);(try clear q1);(try clear q18);(try clear q8);(try clear q870);(try clear q888);(try clear q889)
          obtain ⟨x12_4, x51_4, rfl, HA, HK4, HO_5, HO_8, HO_12, HB⟩ := hrel
          cases gk with
          | zero => exact absurd HA.out (by simp [impl_classes.l3])
          | succ k4 =>
           have H := HA.out
           clear HA
           simp only [impl_classes.l3] at H
           by_cases c26 : x51_4 < ((rd_L1 l0 x39_3).length : Int)
           ·rw [if_pos c26] at H
            have c26b0 : decide (x51_4 < ((rd_L1 l0 x39_3).length : Int)) = true := zH c26
            clear c26
            obtain ⟨c27, H⟩ := iP H
            have c27b0 : decide (0 ≤ x51_4) = true := zH c27
            clear c27
            obtain ⟨c28, H⟩ := iP H
            have c28b0 : decide (x51_4 < ((rd_L1 l0 x39_3).length : Int)) = true := zH c28
            clear c28
            obtain ⟨c29, H⟩ := iP H
            have c29b0 : decide (0 ≤ (rd (rd_L1 l0 x39_3) x51_4)) = true := zH c29
            clear c29
            obtain ⟨c30, H⟩ := iP H
            have c30b0 : decide ((rd (rd_L1 l0 x39_3) x51_4) < (x8_2.length : Int)) = true := zH c30
            clear c30
            obtain ⟨c31, H⟩ := iP H
            have LMc31 := yA c31
            clear c31
            (first | ((with_reducible replace H := bS H); obtain ⟨y895, Ny895, H⟩ := H) | (obtain ⟨y895, Ny895⟩ : ∃ y_ : List Int, y_ = (x12_4 ++ [rd x8_2 (rd (rd_L1 l0 x39_3) x51_4)]) := ⟨_, rfl⟩; rw [← Ny895] at H; replace Ny895 := yA Ny895))
            have H' := yA H
            clear H
            have p893 : 0 ≤ (x51_4 : Int) := zG (by assumption)
            have q893 : x51_4 < ((rd_L1 l0 x39_3).length : Int) := zG (by assumption)
            obtain ⟨ad893, e893, hx893_0⟩ := Kd.at_int HR888_0.out x51_4 p893 q893
            cases e893
            try replace hx893_0 := (HB.out.cell (zE w _ hx893_0)).trans hx893_0
            replace p893 := eq_true p893
            replace q893 := eq_true q893
            have p894 : 0 ≤ ((rd (rd_L1 l0 x39_3) x51_4) : Int) := zG (by assumption)
            have q894 : (rd (rd_L1 l0 x39_3) x51_4) < (x8_2.length : Int) := zG (by assumption)
            obtain ⟨ad894, e894, hx894_0⟩ := Kd.at_int (zN HO_8.out).2.2 (rd (rd_L1 l0 x39_3) x51_4) p894 q894
            obtain rfl : ad889 = ad894 := (by injection e894)
            replace p894 := eq_true p894
            replace q894 := eq_true q894
            go_wp2_with (first | ((with_reducible refine gate_builtin (b := .append) (xs := #[.tmp 55, .tmp 60]) rfl ?_); at_builtin; refine Kd.R_append (Kd.int .i64) (w0 := w) w.heap.size rfl (.tmp 55) (.tmp 60) 38 3 (.int .i64 0) 8 rfl Try.underlying38 info3 rfl (by decide) (by omega) u12 x12_4 (rd x8_2 (rd (rd_L1 l0 x39_3) x51_4)) [.int .i64 (rd x8_2 (rd (rd_L1 l0 x39_3) x51_4))] (fun k_ => some k_ ≠ (.slice (some ad889) x8_2.length co23 : Value).ownBlock) (fun _ => False) rfl rfl ?aP (fun _ hk => hk.elim) ?aF ?aO ?aB ?aS ?aL ?_; (case aP => exact rfl); (case aB => exact (mB HB.out)); (case aF => exact (fun k_ hk => Kd.fresh' (yZ (mR HO_8.out)) k_ hk)); (case aO => exact (mR HO_12.out)); (case aS => exact (yX (mB HB.out))); (case aL => have := LMc31.out; omega); intro v896 w32 ho hb hg hat; rw [← Ny895.out] at ho; replace HO_5 := yA (Kd.S_after (ok := (fun k_ => some k_ ≠ (.slice (some ad889) x8_2.length co23 : Value).ownBlock)) (mS HO_5.out) hg hat); replace HO_8 := yA (Kd.R_after (ok := (fun _ => True)) (mR (zP HO_8.out (fun _ hk => ⟨trivial, hk⟩))) hg hat); replace HB := yA (hb); have HO897 := yA (ho); clear HO_12; clear ho hb hg hat))
            go_roundg k4
            case measure => have := HK1.out; have := HK2.out; have := HK3.out; have := HK4.out; omega
            case rel => exact ⟨(y895), (wrap64 (x51_4 + 1)), (by first | rfl | (simp; done) | (simp [*]; done)), H', ⟨by have := HK1.out; have := HK2.out; have := HK3.out; have := HK4.out; omega⟩, ⟨mS HO_5.out⟩, ⟨by (with_reducible repeat (first | apply yB | apply yC | apply yD)); exact zP HO_8.out (fun _ hk => hk.2)⟩, ⟨mR HO897.out⟩, ⟨mB HB.out⟩⟩
           ·rw [if_neg c26] at H
            have c26b0 : decide (x51_4 < ((rd_L1 l0 x39_3).length : Int)) = false := decide_eq_false c26
            clear c26
            obtain ⟨c33, H⟩ := iP H
            have LMc33 := yA c33
            clear c33
            (first | ((with_reducible replace H := bS H); obtain ⟨y898, Ny898, H⟩ := H) | (obtain ⟨y898, Ny898⟩ : ∃ y_ : List (List Int), y_ = (x5_3 ++ [x12_4]) := ⟨_, rfl⟩; rw [← Ny898] at H; replace Ny898 := yA Ny898))
            have H' := yA H
            clear H
            obtain ⟨Ao35, co35, eo35⟩ := Kd.R_slice HO_12.out
            subst eo35
            go_wp2_with (first | ((with_reducible refine gate_builtin (b := .append) (xs := #[.tmp 63, .tmp 65]) rfl ?_); at_builtin; refine Kd.S_append (Kd.slice 3 (Kd.int .i64)) (w0 := w) w.heap.size rfl (.tmp 63) (.tmp 65) 22 38 (.slice none 0 0) 24 rfl Try.underlying22 info38 rfl (by decide) (by omega) u5 x5_3 x12_4 [.slice Ao35 x12_4.length co35] (fun k_ => some k_ ≠ (.slice (some ad889) x8_2.length co23 : Value).ownBlock) (fun k_ => some k_ = (.slice Ao35 x12_4.length co35 : Value).ownBlock) rfl rfl ?aP (fun k_ hk_ => ((zP (ok' := fun k_ => ((fun k_ => some k_ ≠ (.slice (some ad889) x8_2.length co23 : Value).ownBlock)) k_ ∧ some k_ ≠ (u5 : Value).ownBlock) (Kd.R_apart' (HO_12.out) (Kd.S_typed HO_5.out) (by decide)) (fun k_ hk => ⟨hk.1, hk.2⟩))).1 k_ hk_.symm) ?aF ?aO ?aB ?aS ?aL ?_; (case aP => exact Kd.M_row (zP (Kd.R_tight rfl (zP (ok' := fun k_ => ((fun k_ => some k_ ≠ (.slice (some ad889) x8_2.length co23 : Value).ownBlock)) k_ ∧ some k_ ≠ (u5 : Value).ownBlock) (Kd.R_apart' (HO_12.out) (Kd.S_typed HO_5.out) (by decide)) (fun k_ hk => ⟨hk.1, hk.2⟩))) (fun _ h_ => h_))); (case aB => exact (mB HB.out)); (case aF => exact (fun k_ hk => Kd.fresh' (yZ (mR HO_8.out)) k_ hk)); (case aO => exact (mS (Kd.S_mono HO_5.out (fun k_ hk => ⟨hk.1, fun e_ => hk.2 e_⟩)))); (case aS => exact (yX (mB HB.out))); (case aL => have := LMc33.out; omega); intro v899 w34 ho hb hg hat; rw [← Ny898.out] at ho; replace HO_8 := yA (Kd.R_over' (mR HO_8.out) (Kd.S_typed (mS HO_5.out)) (by decide) hg); replace HB := yA (hb); have HO900 := yA (ho); clear HO_5 HO_12; clear ho hb hg hat))
            go_roundg k4
            case measure => have := HK1.out; have := HK2.out; have := HK3.out; have := HK4.out; omega
            case rel => exact ⟨(y898), (wrap64 (x39_3 + 1)), (by first | rfl | (simp; done) | (simp [*]; done)), H', ⟨by have := HK1.out; have := HK2.out; have := HK3.out; have := HK4.out; omega⟩, ⟨mS HO900.out⟩, ⟨by (with_reducible repeat (first | apply yB | apply yC | apply yD)); exact zP HO_8.out (fun _ hk => trivial)⟩, ⟨mB HB.out⟩⟩
        ·rw [if_neg c19] at H
         have c19b0 : decide (x39_3 < (l0.length : Int)) = false := decide_eq_false c19
         clear c19
         replace H := Option.bind_eq_some_iff.mp H
         obtain ⟨⟨t884, t885⟩, A360, H⟩ := H
         replace H : (if t885 = x9_2 then (some t884) else (impl_classes.l1 k3 l0 x5_3 t884 t885)) = some r := H
         have A36 := yA A360
         clear A360
         by_cases c37 : t885 = x9_2
         ·rw [if_pos c37] at H
          have c37b0 : (t885 == x9_2) = true := beq_iff_eq.mpr c37
          have c37b1 : (t885 != x9_2) = false := bne_eq_false_iff_eq.mpr c37
          clear c37
          obtain rfl := zU H
          obtain ⟨Ao38, co38, eo38⟩ := Kd.S_slice HO_5.out
          subst eo38
          go_wp2_with (first | ((with_reducible refine zS (f := 106) rfl ?_); refine goesL_ (some 70) rfl rfl Try.func106 (by kernel_rfl) rfl #[.slice Ao38 x5_3.length co38] rfl (by (try simp only [zI, zJ, zK]); first | done | rfl | (simp only [zL, zM]; rfl)) ?_; (with_reducible refine (impl_numbered.calls k3 _ _ x5_3 t884 t885 _ ?side1 ?side2 A36.out).mono ?_); (case side1 => exact mC ((Kd.S_reads' HO_5.out).2.2)); (case side2 => exact (Kd.S_reads' HO_5.out).2.1); rintro e w39 ⟨v886, rfl, ho0, hb⟩; refine ⟨_, rfl, ?_⟩; replace HO_5 := yA (Kd.S_elder' (mS HO_5.out) (yY ho0) hb); have HO887 := yA (Kd.R_lower (Kd.R_new' ho0 (yZ (mR HO_8.out))) (yX (mB HB.out))); replace HO_8 := yA (zO (mR HO_8.out) (yY ho0) hb); replace HB := yA (zD (mB HB.out) hb); (try clear hb); (try clear hb2); (try clear hk); (try clear hi); (try clear ho0)))
          go_ret
          exact ⟨_, by first | rfl | (simp [errW_none, errW_some] <;> rfl) | (simp [*, errW_none, errW_some] <;> rfl), by (with_reducible repeat (first | apply yB | apply yC | apply yD)); exact zP HO887.out (fun _ hk => trivial), by repeat (first | (with_reducible first | exact HB.out | apply yO | apply yN | apply yP) | exact HB.out)⟩
         ·rw [if_neg c37] at H
          have c37b0 : (t885 == x9_2) = false := beq_eq_false_iff_ne.mpr c37
          have c37b1 : (t885 != x9_2) = true := bne_iff_ne.mpr c37
          have H' := yA H
          clear H
          obtain ⟨Ao40, co40, eo40⟩ := Kd.S_slice HO_5.out
          subst eo40
          go_wp2_with (first | ((with_reducible refine zS (f := 106) rfl ?_); refine goesL_ (some 70) rfl rfl Try.func106 (by kernel_rfl) rfl #[.slice Ao40 x5_3.length co40] rfl (by (try simp only [zI, zJ, zK]); first | done | rfl | (simp only [zL, zM]; rfl)) ?_; (with_reducible refine (impl_numbered.calls k3 _ _ x5_3 t884 t885 _ ?side1 ?side2 A36.out).mono ?_); (case side1 => exact mC ((Kd.S_reads' HO_5.out).2.2)); (case side2 => exact (Kd.S_reads' HO_5.out).2.1); rintro e w41 ⟨v886, rfl, ho0, hb⟩; refine ⟨_, rfl, ?_⟩; replace HO_5 := yA (Kd.S_elder' (mS HO_5.out) (yY ho0) hb); have HO887 := yA (Kd.R_lower (Kd.R_new' ho0 (yZ (mR HO_8.out))) (yX (mB HB.out))); replace HO_8 := yA (zO (mR HO_8.out) (yY ho0) hb); replace HB := yA (zD (mB HB.out) hb); (try clear hb); (try clear hb2); (try clear hk); (try clear hi); (try clear ho0)))
          go_roundg k3
          case measure => have := HK1.out; have := HK2.out; have := HK3.out; omega
          case rel => exact ⟨(x5_3), (t884), (t885), (by first | rfl | (simp; done) | (simp [*]; done)), H', ⟨by have := HK1.out; have := HK2.out; have := HK3.out; omega⟩, ⟨by (with_reducible repeat (first | apply yH | apply yI | apply yJ)); exact Kd.S_mono HO_5.out (fun _ hk => hk.2)⟩, ⟨by (with_reducible repeat (first | apply yB | apply yC | apply yD)); exact zP HO887.out (fun _ hk => trivial)⟩, ⟨mB HB.out⟩⟩

end Go.Proofs.Ytgopcliohchkmaa.Q
