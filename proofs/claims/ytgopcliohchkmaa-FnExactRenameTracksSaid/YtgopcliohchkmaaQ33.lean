-- written by a program of this session
-- squeezed
-- compact
-- shrunk
import Derived.Test.YtgopcliohchkmaaQ0
import Derived.Test.YtgopcliohchkmaaQ32
namespace Go.Proofs.Ytgopcliohchkmaa.Q
open Go.RowKit Go.Proofs.YtgopcliohchkmaaW.PrintWords Go.Proofs.YtgopcliohchkmaaW.PrintLast Go.Proofs.YtgopcliohchkmaaW.PrintMore
set_option linter.unusedVariables false
set_option linter.unusedSimpArgs false

/-! ### spec_l4Number: function 104 -/
mutual
def spec_l4Number.l0 : Nat → List (List Int) → List Int → Int → Int → Option (List Int)
 | 0, _, _, _, _ => none
 | k + 1, x0, x3, x4, x5 => if x5 < (x0.length : Int) then (spec_l4Number.l1 k x0 x3 x4 x5 (-1) 0) else (some x3)
def spec_l4Number.l1 : Nat → List (List Int) → List Int → Int → Int → Int → Int → Option (List Int)
 | 0, _, _, _, _, _, _ => none
 | k + 1, x0, x3, x4, x5, x6, x7 => if x7 < x5 then (spec_l4Number.j2 k x0 x3 x4 x5 x6 x7 (decide (x6 < 0))) else (spec_l4Number.j2 k x0 x3 x4 x5 x6 x7 false)
def spec_l4Number.j2 : Nat → List (List Int) → List Int → Int → Int → Int → Int → Bool → Option (List Int)
 | 0, _, _, _, _, _, _, _ => none
 | k + 1, x0, x3, x4, x5, x6, x7, x21 => if x21 = true then (if 0 ≤ x7 then (if x7 < (x0.length : Int) then (if 0 ≤ x5 then (if x5 < (x0.length : Int) then ((spec_l3Same.f k (rd_L1 x0 x7) (rd_L1 x0 x5)).bind fun t244 => (if t244 = true then (if x7 < (x3.length : Int) then (spec_l4Number.l1 k x0 x3 x4 x5 (rd x3 x7) (wrap64 (x7 + 1))) else (none)) else (spec_l4Number.l1 k x0 x3 x4 x5 x6 (wrap64 (x7 + 1))))) else (none)) else (none)) else (none)) else (none)) else (if x6 < 0 then (if x3.length < 17592186044416 then (spec_l4Number.l0 k x0 (x3 ++ [x4]) (wrap64 (x4 + 1)) (wrap64 (x5 + 1))) else (none)) else (if x3.length < 17592186044416 then (spec_l4Number.l0 k x0 (x3 ++ [x6]) x4 (wrap64 (x5 + 1))) else (none)))
end
def spec_l4Number.f (k : Nat) (l0 : List (List Int)) : Option (List Int) := spec_l4Number.l0 k l0 (([] : List Int)) 0 0
theorem spec_l4Number.mono_l : ∀ k, (∀ y0 y1 y2 y3, LeO (spec_l4Number.l0 k y0 y1 y2 y3) (spec_l4Number.l0 (k + 1) y0 y1 y2 y3)) ∧ (∀ y0 y1 y2 y3 y4 y5, LeO (spec_l4Number.l1 k y0 y1 y2 y3 y4 y5) (spec_l4Number.l1 (k + 1) y0 y1 y2 y3 y4 y5)) ∧ (∀ y0 y1 y2 y3 y4 y5 y6, LeO (spec_l4Number.j2 k y0 y1 y2 y3 y4 y5 y6) (spec_l4Number.j2 (k + 1) y0 y1 y2 y3 y4 y5 y6))
 | 0 => ⟨fun _ _ _ _ r h => by simp [spec_l4Number.l0] at h, fun _ _ _ _ _ _ r h => by simp [spec_l4Number.l1] at h, fun _ _ _ _ _ _ _ r h => by simp [spec_l4Number.j2] at h⟩
 | k + 1 => by
  obtain ⟨ih0, ih1, ih2⟩ := spec_l4Number.mono_l k
  refine ⟨?_, ?_, ?_⟩ <;> intros <;> first | unfold spec_l4Number.l0 | unfold spec_l4Number.l1 | unfold spec_l4Number.j2
  all_goals repeat' (with_reducible first | exact ih0 _ _ _ _ | exact ih1 _ _ _ _ _ _ | exact ih2 _ _ _ _ _ _ _ | exact spec_l3Same.mono _ _ _ | exact LeO.refl _ | exact LeO.none _ | refine LeO.ite ?_ ?_ | refine LeO.bind ?_ fun _ => ?_)
theorem spec_l4Number.mono : ∀ a0 k, LeO (spec_l4Number.f k a0) (spec_l4Number.f (k + 1) a0) := by
 intro a0 k
 obtain ⟨ih0, ih1, ih2⟩ := spec_l4Number.mono_l k
 unfold spec_l4Number.f
 repeat' (with_reducible first | exact ih0 _ _ _ _ | exact ih1 _ _ _ _ _ _ | exact ih2 _ _ _ _ _ _ _ | exact spec_l3Same.mono _ _ _ | exact LeO.refl _ | exact LeO.none _ | refine LeO.ite ?_ ?_ | refine LeO.bind ?_ fun _ => ?_)
set_option maxHeartbeats 8000000 in
set_option maxRecDepth 100000 in
theorem spec_l4Number.calls (k : Nat) (A0 : Option Addr) (c0 : Nat) (l0 : List (List Int)) (r : List Int) (w : World) (hr0 : Kd.C (Kd.slice 3 (Kd.int .i64)) w A0 l0.length l0) (hc0 : l0.length ≤ c0) (h : spec_l4Number.f k l0 = some r) :
  Calls Try.prog 104 #[.slice A0 l0.length c0] w fun e w' => ∃ v0_ : Value, e = .returned (v0_) ∧ Kd.R (Kd.int .i64) 3 w' w.heap.size (fun _ => True) v0_ r ∧ Below w.heap.size w w' := by
 have HR0 := yA hr0
 have HC0 := yA hc0
 clear hr0 hc0
 have HB := yA (zV w.heap.size w)
 have H : (spec_l4Number.l0 k l0 (([] : List Int)) 0 0) = some r := h
 clear h
 (first | ((with_reducible replace H := bS H); obtain ⟨y239, Ny239, H⟩ := H) | (obtain ⟨y239, Ny239⟩ : ∃ y_ : List Int, y_ = (([] : List Int)) := ⟨_, rfl⟩; rw [← Ny239] at H; replace Ny239 := yA Ny239))
 have H' := yA H
 clear H
 go_enter Try.func104, Try.ntmps104
 go_wp2_with (first | ((with_reducible refine gate_dst (N := 8) rfl ?_); refine Kd.R_lit (Kd.int .i64) _ 3 ?hg (N := 8) ?hd (xs := ([] : List Int)) (inner := []) (ok := fun _ => True) (okp := fun _ => True) ?hr ?hp (fun _ hk => hk) trivial (zV _ _) (zT _) (by simp) ?_; (case hd => rfl); (case hg => rfl); (case hr => first | (go_simp; done) | (go_simp; rfl)); (case hp => exact (Reps.none _ _)); intro v240 w2 ho3 hb hg_ hnew_; clear hg_ hnew_; (first | rw [← Ny239.out] at ho3 | (simp only [Int.reduceToNat] at ho3; rw [← Ny239.out] at ho3)); have HO241 := yA (Kd.R_lower ho3 (yX (mB HB.out))); replace HB := yA (zD (mB HB.out) hb); clear hb ho3))
 repeat (go_quiet (first | ((with_reducible refine gate_dst (N := 8) rfl ?_); refine Kd.R_lit (Kd.int .i64) _ 3 ?hg (N := 8) ?hd (xs := ([] : List Int)) (inner := []) (ok := fun _ => True) (okp := fun _ => True) ?hr ?hp (fun _ hk => hk) trivial (zV _ _) (zT _) (by simp) ?_; (case hd => rfl); (case hg => rfl); (case hr => first | (go_simp; done) | (go_simp; rfl)); (case hp => exact (Reps.none _ _)); intro v240 w2 ho3 hb hg_ hnew_; clear hg_ hnew_; (first | rw [← Ny239.out] at ho3 | (simp only [Int.reduceToNat] at ho3; rw [← Ny239.out] at ho3)); have HO241 := yA (Kd.R_lower ho3 (yX (mB HB.out))); replace HB := yA (zD (mB HB.out) hb); clear hb ho3)); try go_wp2_with (first | ((with_reducible refine gate_dst (N := 8) rfl ?_); refine Kd.R_lit (Kd.int .i64) _ 3 ?hg (N := 8) ?hd (xs := ([] : List Int)) (inner := []) (ok := fun _ => True) (okp := fun _ => True) ?hr ?hp (fun _ hk => hk) trivial (zV _ _) (zT _) (by simp) ?_; (case hd => rfl); (case hg => rfl); (case hr => first | (go_simp; done) | (go_simp; rfl)); (case hp => exact (Reps.none _ _)); intro v240 w2 ho3 hb hg_ hnew_; clear hg_ hnew_; (first | rw [← Ny239.out] at ho3 | (simp only [Int.reduceToNat] at ho3; rw [← Ny239.out] at ho3)); have HO241 := yA (Kd.R_lower ho3 (yX (mB HB.out))); replace HB := yA (zD (mB HB.out) hb); clear hb ho3)))
 go_loopg [3, 4, 5] k (fun kq v3 v4 v5 w' => ∃ (x3_1 : List Int) (x4_1 : Int) (x5_1 : Int), v4 = .int .i64 x4_1 ∧ v5 = .int .i64 x5_1 ∧ Aside0 (spec_l4Number.l0 kq l0 x3_1 x4_1 x5_1 = some r) ∧ Aside0 (kq ≤ k) ∧ Aside0 (Kd.R (Kd.int .i64) 3 w' w.heap.size (fun _ => True) v3 x3_1) ∧ Aside0 (Below w.heap.size w w'))
 case atStart => exact ⟨(y239), (0), (0), (by first | rfl | (simp; done) | (simp [*]; done)), (by first | rfl | (simp; done) | (simp [*]; done)), H', ⟨zT _⟩, ⟨mR HO241.out⟩, ⟨mB HB.out⟩⟩
 case round =>
  clear H'
  (try clear c1);(try clear p2)
  obtain ⟨x3_1, x4_1, x5_1, rfl, rfl, HA, HK1, HO_3, HB⟩ := hrel
  cases gk with
  | zero => exact absurd HA.out (by simp [spec_l4Number.l0])
  | succ k1 =>
   have H := HA.out
   clear HA
   simp only [spec_l4Number.l0] at H
   by_cases c4 : x5_1 < (l0.length : Int)
   ·rw [if_pos c4] at H
    have c4b0 : decide (x5_1 < (l0.length : Int)) = true := zH c4
    clear c4
    have H' := yA H
    clear H
    go_wp2
    repeat (go_quiet (fail); try go_wp2)
    go_loopg [6, 7] k1 (fun kq v6 v7 w' => ∃ (x6_2 : Int) (x7_2 : Int), v6 = .int .i64 x6_2 ∧ v7 = .int .i64 x7_2 ∧ Aside0 (spec_l4Number.l1 kq l0 x3_1 x4_1 x5_1 x6_2 x7_2 = some r) ∧ Aside0 (kq ≤ k1) ∧ Aside0 (Kd.R (Kd.int .i64) 3 w' w.heap.size (fun _ => True) u3 x3_1) ∧ Aside0 (Below w.heap.size w w'))
    case atStart => exact ⟨((-1)), (0), (by first | rfl | (simp; done) | (simp [*]; done)), (by first | rfl | (simp; done) | (simp [*]; done)), H', ⟨zT _⟩, ⟨mR HO_3.out⟩, ⟨mB HB.out⟩⟩
    case round =>
     clear H'
     (try clear c1);(try clear p2);(try clear c4);(try clear c4b0);(try clear p2)
     obtain ⟨x6_2, x7_2, rfl, rfl, HA, HK2, HO_3, HB⟩ := hrel
     cases gk with
     | zero => exact absurd HA.out (by simp [spec_l4Number.l1])
     | succ k2 =>
      have H := HA.out
      clear HA
      simp only [spec_l4Number.l1] at H
      have HC5 := yA H
      clear H
      go_upto_region 8 with (fail)
      repeat (go_quiet (fail); go_upto_region 8 with (fail))
      go_cut [21] (fun v21 wc => ∃ (kq : Nat) (x21_4 : Bool), v21 = .bool x21_4 ∧ Aside0 (spec_l4Number.j2 kq l0 x3_1 x4_1 x5_1 x6_2 x7_2 x21_4 = some r) ∧ Aside0 (kq ≤ k2) ∧ Aside0 (Kd.R (Kd.int .i64) 3 wc w.heap.size (fun _ => True) u3 x3_1) ∧ Aside0 (Below w.heap.size w wc))
      case first =>
       have H := HC5.out
       clear HC5
       by_cases c6 : x7_2 < x5_1
       ·rw [if_pos c6] at H
        have c6b0 : decide (x7_2 < x5_1) = true := zH c6
        clear c6
        (first | rw [c6b0] | (simp only [i64_w, i32_w]; rw [c6b0]) | skip)
        have H' := yA H
        clear H
        go_wp2
        repeat (go_quiet (fail); try go_wp2)
        go_meet
        case rel => exact ⟨_, (decide (x6_2 < 0)), (by first | rfl | (simp; done) | (simp [*]; done)), H', ⟨by have := HK1.out; have := HK2.out; first | omega | exact zT _⟩, ⟨mR HO_3.out⟩, ⟨mB HB.out⟩⟩
       ·rw [if_neg c6] at H
        have c6b0 : decide (x7_2 < x5_1) = false := decide_eq_false c6
        clear c6
        (first | rw [c6b0] | (simp only [i64_w, i32_w]; rw [c6b0]) | skip)
        have H' := yA H
        clear H
        go_wp2
        repeat (go_quiet (fail); try go_wp2)
        go_meet
        case rel => exact ⟨_, (false), (by first | rfl | (simp; done) | (simp [*]; done)), H', ⟨by have := HK1.out; have := HK2.out; first | omega | exact zT _⟩, ⟨mR HO_3.out⟩, ⟨mB HB.out⟩⟩
      case rest =>
       clear HC5
       (try clear c1);(try clear p2);(try clear c4);(try clear c4b0);(try clear c6);(try clear c6b0);(try clear p2)
       obtain ⟨kq, x21_4, rfl, HA, HJ4, HO_3, HB⟩ := hcut
       cases kq with
       | zero => exact absurd HA.out (by simp [spec_l4Number.j2])
       | succ kj4 =>
        have H := HA.out
        clear HA
        simp only [spec_l4Number.j2] at H
        by_cases c7 : x21_4 = true
        ·subst c7
         replace H := iT H
         obtain ⟨c8, H⟩ := iP H
         have c8b0 : decide (0 ≤ x7_2) = true := zH c8
         clear c8
         obtain ⟨c9, H⟩ := iP H
         have c9b0 : decide (x7_2 < (l0.length : Int)) = true := zH c9
         clear c9
         obtain ⟨c10, H⟩ := iP H
         have c10b0 : decide (0 ≤ x5_1) = true := zH c10
         clear c10
         obtain ⟨c11, H⟩ := iP H
         have c11b0 : decide (x5_1 < (l0.length : Int)) = true := zH c11
         clear c11
         obtain ⟨t244, A12, H⟩ := bE H
         by_cases c13 : t244 = true
         ·subst c13
          replace H := iT H
          obtain ⟨c14, H⟩ := iP H
          have c14b0 : decide (x7_2 < (x3_1.length : Int)) = true := zH c14
          clear c14
          have H' := yA H
          clear H
          have p242 : 0 ≤ (x7_2 : Int) := zG (by assumption)
          have q242 : x7_2 < (l0.length : Int) := zG (by assumption)
          obtain ⟨ad242, A242_0, c242_0, e242, hx242_0, hl242_0, hi242_0⟩ := at_L1 HR0.out x7_2 p242 q242
          cases e242
          try replace hx242_0 := (HB.out.cell (zE w _ hx242_0)).trans hx242_0
          have HR242_0 := yA hi242_0
          have HC242_0 := yA hl242_0
          clear hi242_0 hl242_0
          replace p242 := eq_true p242
          replace q242 := eq_true q242
          have p243 : 0 ≤ (x5_1 : Int) := zG (by assumption)
          have q243 : x5_1 < (l0.length : Int) := zG (by assumption)
          obtain ⟨ad243, A243_0, c243_0, e243, hx243_0, hl243_0, hi243_0⟩ := at_L1 HR0.out x5_1 p243 q243
          obtain rfl : ad242 = ad243 := (by injection e243)
          try replace hx243_0 := (HB.out.cell (zE w _ hx243_0)).trans hx243_0
          have HR243_0 := yA hi243_0
          have HC243_0 := yA hl243_0
          clear hi243_0 hl243_0
          replace p243 := eq_true p243
          replace q243 := eq_true q243
          go_wp2_with (first | (go_at_call 98; (with_reducible refine (spec_l3Same.calls kj4 _ _ (rd_L1 l0 x7_2) _ _ (rd_L1 l0 x5_1) true _ ?side1 ?side2 ?side3 ?side4 A12.out).mono ?_); (case side1 => exact mC (yM HR242_0.out HB.out)); (case side2 => exact HC242_0.out); (case side3 => exact mC (yM HR243_0.out HB.out)); (case side4 => exact HC243_0.out); rintro e w' ⟨rfl, ⟨nd, rfl⟩⟩; (try first | exact ⟨rfl, _, World.drewN_drewN _ _ _⟩ | exact ⟨rfl, _, Eq.trans (World.drewN_drewN _ _ _) (congrArg (World.drewN _) (Nat.add_assoc _ _ _))⟩); obtain ⟨Ao15, co15, eo15⟩ := Kd.R_slice HO_3.out; subst eo15; have p245 : 0 ≤ (x7_2 : Int) := zG (by assumption); have q245 : x7_2 < (x3_1.length : Int) := zG (by assumption); obtain ⟨ad245, e245, hx245_0⟩ := Kd.at_int (zN HO_3.out).2.2 x7_2 p245 q245; cases e245; replace p245 := eq_true p245; replace q245 := eq_true q245))
          repeat (go_quiet (first | (go_at_call 98; (with_reducible refine (spec_l3Same.calls kj4 _ _ (rd_L1 l0 x7_2) _ _ (rd_L1 l0 x5_1) true _ ?side1 ?side2 ?side3 ?side4 A12.out).mono ?_); (case side1 => exact mC (yM HR242_0.out HB.out)); (case side2 => exact HC242_0.out); (case side3 => exact mC (yM HR243_0.out HB.out)); (case side4 => exact HC243_0.out); rintro e w' ⟨rfl, ⟨nd, rfl⟩⟩; (try first | exact ⟨rfl, _, World.drewN_drewN _ _ _⟩ | exact ⟨rfl, _, Eq.trans (World.drewN_drewN _ _ _) (congrArg (World.drewN _) (Nat.add_assoc _ _ _))⟩); obtain ⟨Ao15, co15, eo15⟩ := Kd.R_slice HO_3.out; subst eo15; have p245 : 0 ≤ (x7_2 : Int) := zG (by assumption); have q245 : x7_2 < (x3_1.length : Int) := zG (by assumption); obtain ⟨ad245, e245, hx245_0⟩ := Kd.at_int (zN HO_3.out).2.2 x7_2 p245 q245; cases e245; replace p245 := eq_true p245; replace q245 := eq_true q245)); try go_wp2_with (first | (go_at_call 98; (with_reducible refine (spec_l3Same.calls kj4 _ _ (rd_L1 l0 x7_2) _ _ (rd_L1 l0 x5_1) true _ ?side1 ?side2 ?side3 ?side4 A12.out).mono ?_); (case side1 => exact mC (yM HR242_0.out HB.out)); (case side2 => exact HC242_0.out); (case side3 => exact mC (yM HR243_0.out HB.out)); (case side4 => exact HC243_0.out); rintro e w' ⟨rfl, ⟨nd, rfl⟩⟩; (try first | exact ⟨rfl, _, World.drewN_drewN _ _ _⟩ | exact ⟨rfl, _, Eq.trans (World.drewN_drewN _ _ _) (congrArg (World.drewN _) (Nat.add_assoc _ _ _))⟩); obtain ⟨Ao15, co15, eo15⟩ := Kd.R_slice HO_3.out; subst eo15; have p245 : 0 ≤ (x7_2 : Int) := zG (by assumption); have q245 : x7_2 < (x3_1.length : Int) := zG (by assumption); obtain ⟨ad245, e245, hx245_0⟩ := Kd.at_int (zN HO_3.out).2.2 x7_2 p245 q245; cases e245; replace p245 := eq_true p245; replace q245 := eq_true q245)))
          go_roundg kj4
          case measure => have := HK1.out; have := HK2.out; have := HJ4.out; omega
          case rel => exact ⟨(rd x3_1 x7_2), (wrap64 (x7_2 + 1)), (by first | rfl | (simp; done) | (simp [*]; done)), (by first | rfl | (simp; done) | (simp [*]; done)), H', ⟨by have := HK1.out; have := HK2.out; have := HJ4.out; omega⟩, ⟨mR HO_3.out⟩, ⟨mB HB.out⟩⟩
         ·replace c13 := Bool.eq_false_iff.mpr c13
          subst c13
          replace H := iF H
          have H' := yA H
          clear H
          have p242 : 0 ≤ (x7_2 : Int) := zG (by assumption)
          have q242 : x7_2 < (l0.length : Int) := zG (by assumption)
          obtain ⟨ad242, A242_0, c242_0, e242, hx242_0, hl242_0, hi242_0⟩ := at_L1 HR0.out x7_2 p242 q242
          cases e242
          try replace hx242_0 := (HB.out.cell (zE w _ hx242_0)).trans hx242_0
          have HR242_0 := yA hi242_0
          have HC242_0 := yA hl242_0
          clear hi242_0 hl242_0
          replace p242 := eq_true p242
          replace q242 := eq_true q242
          have p243 : 0 ≤ (x5_1 : Int) := zG (by assumption)
          have q243 : x5_1 < (l0.length : Int) := zG (by assumption)
          obtain ⟨ad243, A243_0, c243_0, e243, hx243_0, hl243_0, hi243_0⟩ := at_L1 HR0.out x5_1 p243 q243
          obtain rfl : ad242 = ad243 := (by injection e243)
          try replace hx243_0 := (HB.out.cell (zE w _ hx243_0)).trans hx243_0
          have HR243_0 := yA hi243_0
          have HC243_0 := yA hl243_0
          clear hi243_0 hl243_0
          replace p243 := eq_true p243
          replace q243 := eq_true q243
          go_wp2_with (first | (go_at_call 98; (with_reducible refine (spec_l3Same.calls kj4 _ _ (rd_L1 l0 x7_2) _ _ (rd_L1 l0 x5_1) false _ ?side1 ?side2 ?side3 ?side4 A12.out).mono ?_); (case side1 => exact mC (yM HR242_0.out HB.out)); (case side2 => exact HC242_0.out); (case side3 => exact mC (yM HR243_0.out HB.out)); (case side4 => exact HC243_0.out); rintro e w' ⟨rfl, ⟨nd, rfl⟩⟩; (try first | exact ⟨rfl, _, World.drewN_drewN _ _ _⟩ | exact ⟨rfl, _, Eq.trans (World.drewN_drewN _ _ _) (congrArg (World.drewN _) (Nat.add_assoc _ _ _))⟩)))
          repeat (go_quiet (first | (go_at_call 98; (with_reducible refine (spec_l3Same.calls kj4 _ _ (rd_L1 l0 x7_2) _ _ (rd_L1 l0 x5_1) false _ ?side1 ?side2 ?side3 ?side4 A12.out).mono ?_); (case side1 => exact mC (yM HR242_0.out HB.out)); (case side2 => exact HC242_0.out); (case side3 => exact mC (yM HR243_0.out HB.out)); (case side4 => exact HC243_0.out); rintro e w' ⟨rfl, ⟨nd, rfl⟩⟩; (try first | exact ⟨rfl, _, World.drewN_drewN _ _ _⟩ | exact ⟨rfl, _, Eq.trans (World.drewN_drewN _ _ _) (congrArg (World.drewN _) (Nat.add_assoc _ _ _))⟩))); try go_wp2_with (first | (go_at_call 98; (with_reducible refine (spec_l3Same.calls kj4 _ _ (rd_L1 l0 x7_2) _ _ (rd_L1 l0 x5_1) false _ ?side1 ?side2 ?side3 ?side4 A12.out).mono ?_); (case side1 => exact mC (yM HR242_0.out HB.out)); (case side2 => exact HC242_0.out); (case side3 => exact mC (yM HR243_0.out HB.out)); (case side4 => exact HC243_0.out); rintro e w' ⟨rfl, ⟨nd, rfl⟩⟩; (try first | exact ⟨rfl, _, World.drewN_drewN _ _ _⟩ | exact ⟨rfl, _, Eq.trans (World.drewN_drewN _ _ _) (congrArg (World.drewN _) (Nat.add_assoc _ _ _))⟩))))
          go_roundg kj4
          case measure => have := HK1.out; have := HK2.out; have := HJ4.out; omega
          case rel => exact ⟨(x6_2), (wrap64 (x7_2 + 1)), (by first | rfl | (simp; done) | (simp [*]; done)), (by first | rfl | (simp; done) | (simp [*]; done)), H', ⟨by have := HK1.out; have := HK2.out; have := HJ4.out; omega⟩, ⟨mR HO_3.out⟩, ⟨mB HB.out⟩⟩
        ·replace c7 := Bool.eq_false_iff.mpr c7
         subst c7
         replace H := iF H
         by_cases c16 : x6_2 < 0
         ·rw [if_pos c16] at H
          have c16b0 : decide (x6_2 < 0) = true := zH c16
          clear c16
          obtain ⟨c17, H⟩ := iP H
          have LMc17 := yA c17
          clear c17
          (first | ((with_reducible replace H := bS H); obtain ⟨y246, Ny246, H⟩ := H) | (obtain ⟨y246, Ny246⟩ : ∃ y_ : List Int, y_ = (x3_1 ++ [x4_1]) := ⟨_, rfl⟩; rw [← Ny246] at H; replace Ny246 := yA Ny246))
          have H' := yA H
          clear H
          go_wp2_with (first | ((with_reducible refine gate_builtin (b := .append) (xs := #[.tmp 42, .tmp 44]) rfl ?_); at_builtin; refine Kd.R_append (Kd.int .i64) (w0 := w) w.heap.size rfl (.tmp 42) (.tmp 44) 38 3 (.int .i64 0) 8 rfl Try.underlying38 info3 rfl (by decide) (by omega) u3 x3_1 x4_1 [.int .i64 x4_1] (fun _ => True) (fun _ => False) rfl rfl ?aP (fun _ hk => hk.elim) ?aF ?aO ?aB ?aS ?aL ?_; (case aP => exact rfl); (case aB => exact (mB HB.out)); (case aF => exact (fun _ _ => trivial)); (case aO => exact (mR HO_3.out)); (case aS => exact (yX (mB HB.out))); (case aL => have := LMc17.out; omega); intro v247 w18 ho hb hg hat; rw [← Ny246.out] at ho; replace HB := yA (hb); have HO248 := yA (ho); clear HO_3; clear ho hb hg hat))
          repeat (go_quiet (first | ((with_reducible refine gate_builtin (b := .append) (xs := #[.tmp 42, .tmp 44]) rfl ?_); at_builtin; refine Kd.R_append (Kd.int .i64) (w0 := w) w.heap.size rfl (.tmp 42) (.tmp 44) 38 3 (.int .i64 0) 8 rfl Try.underlying38 info3 rfl (by decide) (by omega) u3 x3_1 x4_1 [.int .i64 x4_1] (fun _ => True) (fun _ => False) rfl rfl ?aP (fun _ hk => hk.elim) ?aF ?aO ?aB ?aS ?aL ?_; (case aP => exact rfl); (case aB => exact (mB HB.out)); (case aF => exact (fun _ _ => trivial)); (case aO => exact (mR HO_3.out)); (case aS => exact (yX (mB HB.out))); (case aL => have := LMc17.out; omega); intro v247 w18 ho hb hg hat; rw [← Ny246.out] at ho; replace HB := yA (hb); have HO248 := yA (ho); clear HO_3; clear ho hb hg hat)); try go_wp2_with (first | ((with_reducible refine gate_builtin (b := .append) (xs := #[.tmp 42, .tmp 44]) rfl ?_); at_builtin; refine Kd.R_append (Kd.int .i64) (w0 := w) w.heap.size rfl (.tmp 42) (.tmp 44) 38 3 (.int .i64 0) 8 rfl Try.underlying38 info3 rfl (by decide) (by omega) u3 x3_1 x4_1 [.int .i64 x4_1] (fun _ => True) (fun _ => False) rfl rfl ?aP (fun _ hk => hk.elim) ?aF ?aO ?aB ?aS ?aL ?_; (case aP => exact rfl); (case aB => exact (mB HB.out)); (case aF => exact (fun _ _ => trivial)); (case aO => exact (mR HO_3.out)); (case aS => exact (yX (mB HB.out))); (case aL => have := LMc17.out; omega); intro v247 w18 ho hb hg hat; rw [← Ny246.out] at ho; replace HB := yA (hb); have HO248 := yA (ho); clear HO_3; clear ho hb hg hat)))
          go_roundg kj4
          case measure => have := HK1.out; have := HK2.out; have := HJ4.out; omega
          case rel => exact ⟨(y246), (wrap64 (x4_1 + 1)), (wrap64 (x5_1 + 1)), (by first | rfl | (simp; done) | (simp [*]; done)), (by first | rfl | (simp; done) | (simp [*]; done)), H', ⟨by have := HK1.out; have := HK2.out; have := HJ4.out; omega⟩, ⟨mR HO248.out⟩, ⟨mB HB.out⟩⟩
         ·rw [if_neg c16] at H
          have c16b0 : decide (x6_2 < 0) = false := decide_eq_false c16
          clear c16
          obtain ⟨c19, H⟩ := iP H
          have LMc19 := yA c19
          clear c19
          (first | ((with_reducible replace H := bS H); obtain ⟨y249, Ny249, H⟩ := H) | (obtain ⟨y249, Ny249⟩ : ∃ y_ : List Int, y_ = (x3_1 ++ [x6_2]) := ⟨_, rfl⟩; rw [← Ny249] at H; replace Ny249 := yA Ny249))
          have H' := yA H
          clear H
          go_wp2_with (first | ((with_reducible refine gate_builtin (b := .append) (xs := #[.tmp 42, .tmp 44]) rfl ?_); at_builtin; refine Kd.R_append (Kd.int .i64) (w0 := w) w.heap.size rfl (.tmp 42) (.tmp 44) 38 3 (.int .i64 0) 8 rfl Try.underlying38 info3 rfl (by decide) (by omega) u3 x3_1 x6_2 [.int .i64 x6_2] (fun _ => True) (fun _ => False) rfl rfl ?aP (fun _ hk => hk.elim) ?aF ?aO ?aB ?aS ?aL ?_; (case aP => exact rfl); (case aB => exact (mB HB.out)); (case aF => exact (fun _ _ => trivial)); (case aO => exact (mR HO_3.out)); (case aS => exact (yX (mB HB.out))); (case aL => have := LMc19.out; omega); intro v250 w20 ho hb hg hat; rw [← Ny249.out] at ho; replace HB := yA (hb); have HO251 := yA (ho); clear HO_3; clear ho hb hg hat))
          repeat (go_quiet (first | ((with_reducible refine gate_builtin (b := .append) (xs := #[.tmp 42, .tmp 44]) rfl ?_); at_builtin; refine Kd.R_append (Kd.int .i64) (w0 := w) w.heap.size rfl (.tmp 42) (.tmp 44) 38 3 (.int .i64 0) 8 rfl Try.underlying38 info3 rfl (by decide) (by omega) u3 x3_1 x6_2 [.int .i64 x6_2] (fun _ => True) (fun _ => False) rfl rfl ?aP (fun _ hk => hk.elim) ?aF ?aO ?aB ?aS ?aL ?_; (case aP => exact rfl); (case aB => exact (mB HB.out)); (case aF => exact (fun _ _ => trivial)); (case aO => exact (mR HO_3.out)); (case aS => exact (yX (mB HB.out))); (case aL => have := LMc19.out; omega); intro v250 w20 ho hb hg hat; rw [← Ny249.out] at ho; replace HB := yA (hb); have HO251 := yA (ho); clear HO_3; clear ho hb hg hat)); try go_wp2_with (first | ((with_reducible refine gate_builtin (b := .append) (xs := #[.tmp 42, .tmp 44]) rfl ?_); at_builtin; refine Kd.R_append (Kd.int .i64) (w0 := w) w.heap.size rfl (.tmp 42) (.tmp 44) 38 3 (.int .i64 0) 8 rfl Try.underlying38 info3 rfl (by decide) (by omega) u3 x3_1 x6_2 [.int .i64 x6_2] (fun _ => True) (fun _ => False) rfl rfl ?aP (fun _ hk => hk.elim) ?aF ?aO ?aB ?aS ?aL ?_; (case aP => exact rfl); (case aB => exact (mB HB.out)); (case aF => exact (fun _ _ => trivial)); (case aO => exact (mR HO_3.out)); (case aS => exact (yX (mB HB.out))); (case aL => have := LMc19.out; omega); intro v250 w20 ho hb hg hat; rw [← Ny249.out] at ho; replace HB := yA (hb); have HO251 := yA (ho); clear HO_3; clear ho hb hg hat)))
          go_roundg kj4
          case measure => have := HK1.out; have := HK2.out; have := HJ4.out; omega
          case rel => exact ⟨(y249), (x4_1), (wrap64 (x5_1 + 1)), (by first | rfl | (simp; done) | (simp [*]; done)), (by first | rfl | (simp; done) | (simp [*]; done)), H', ⟨by have := HK1.out; have := HK2.out; have := HJ4.out; omega⟩, ⟨mR HO251.out⟩, ⟨mB HB.out⟩⟩
   ·rw [if_neg c4] at H
    have c4b0 : decide (x5_1 < (l0.length : Int)) = false := decide_eq_false c4
    clear c4
    obtain rfl := zU H
    go_wp2
    repeat (go_quiet (fail); try go_wp2)
    go_ret
    exact ⟨_, by first | rfl | (simp [errW_none, errW_some] <;> rfl) | (simp [*, errW_none, errW_some] <;> rfl), by (with_reducible repeat (first | apply yB | apply yC | apply yD)); exact HO_3.out, by repeat (first | (with_reducible first | exact HB.out | apply yO | apply yN | apply yP) | exact HB.out)⟩

end Go.Proofs.Ytgopcliohchkmaa.Q
