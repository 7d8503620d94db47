-- written by a program of this session (a turned copy of the kit's print) out of the translation
-- squeezed
-- compact
import Derived.Test.YtgopcliohchkmaaQ0
import Derived.Test.YtgopcliohchkmaaQ51
import Derived.Test.YtgopcliohchkmaaQ57
namespace Go.Proofs.Ytgopcliohchkmaa.Q
open Go.RowKit Go.Proofs.YtgopcliohchkmaaW.PrintWords Go.Proofs.YtgopcliohchkmaaW.PrintLast Go.Proofs.YtgopcliohchkmaaW.PrintMore
attribute [local go_sem] max2_int min2_int max_two min_two max_three min_three max_four min_four   -- for this text's walks alone
set_option linter.unusedVariables false
set_option linter.unusedSimpArgs false

/-! ### spec_l15Numbers: function 73 -/
mutual
def spec_l15Numbers.l0 : Nat → List Int → List Int → Int → Int → Int → List (List Int) → List Bool → Option (List Int)
 | 0, _, _, _, _, _, _, _ => none
 | k + 1, x1, x5, x6, x593000, x593001, x593002, x593003 => if x6 < x593001 then (spec_l15Numbers.l1 k x1 x5 x6 (([] : List Int)) 0 x593000 x593001 x593002 x593003) else (some x5)
def spec_l15Numbers.l1 : Nat → List Int → List Int → Int → List Int → Int → Int → Int → List (List Int) → List Bool → Option (List Int)
 | 0, _, _, _, _, _, _, _, _, _ => none
 | k + 1, x1, x5, x6, x7, x8, x593000, x593001, x593002, x593003 => if x8 < (x1.length : Int) then (if 0 ≤ x8 then ((spec_l15Digit.f k x593000 x593001 (rd x1 x8) x6).bind fun t600 => (if x7.length < 17592186044416 then (spec_l15Numbers.l1 k x1 x5 x6 (x7 ++ [t600]) (wrap64 (x8 + 1)) x593000 x593001 x593002 x593003) else (none))) else (none)) else ((spec_ValueOf.f k x7 x593000).bind fun t604 => (if x5.length < 17592186044416 then (spec_l15Numbers.l0 k x1 (x5 ++ [t604]) (wrap64 (x6 + 1)) x593000 x593001 x593002 x593003) else (none)))
end
def spec_l15Numbers.f (k : Nat) (a0_0 : Int) (a0_1 : Int) (l0_2 : List (List Int)) (l0_3 : List Bool) (l1 : List Int) : Option (List Int) := spec_l15Numbers.l0 k l1 (([] : List Int)) 0 a0_0 a0_1 l0_2 l0_3
theorem spec_l15Numbers.mono_l : ∀ k, (∀ y0 y1 y2 y3 y4 y5 y6, LeO (spec_l15Numbers.l0 k y0 y1 y2 y3 y4 y5 y6) (spec_l15Numbers.l0 (k + 1) y0 y1 y2 y3 y4 y5 y6)) ∧ (∀ y0 y1 y2 y3 y4 y5 y6 y7 y8, LeO (spec_l15Numbers.l1 k y0 y1 y2 y3 y4 y5 y6 y7 y8) (spec_l15Numbers.l1 (k + 1) y0 y1 y2 y3 y4 y5 y6 y7 y8))
 | 0 => ⟨fun _ _ _ _ _ _ _ r h => by simp [spec_l15Numbers.l0] at h, fun _ _ _ _ _ _ _ _ _ r h => by simp [spec_l15Numbers.l1] at h⟩
 | k + 1 => by
  obtain ⟨ih0, ih1⟩ := spec_l15Numbers.mono_l k
  refine ⟨?_, ?_⟩
  ·intro y0 y1 y2 y3 y4 y5 y6
   unfold spec_l15Numbers.l0
   repeat' first
   | (with_reducible exact ih0 _ _ _ _ _ _ _)
   | (with_reducible exact ih1 _ _ _ _ _ _ _ _ _)
   | (with_reducible exact spec_ValueOf.mono _ _ _)
   | (with_reducible exact spec_l15Digit.mono _ _ _ _ _)
   | (with_reducible exact LeO.refl _)
   | (with_reducible exact LeO.none _)
   | (with_reducible refine LeO.ite ?_ ?_)
   | (with_reducible refine LeO.bind ?_ (fun _ => ?_))
   | exact ih0 _ _ _ _ _ _ _
   | exact ih1 _ _ _ _ _ _ _ _ _
   | exact spec_ValueOf.mono _ _ _
   | exact spec_l15Digit.mono _ _ _ _ _
   | exact LeO.none _
   | refine LeO.ite ?_ ?_
   | refine LeO.bind ?_ (fun _ => ?_)
  ·intro y0 y1 y2 y3 y4 y5 y6 y7 y8
   unfold spec_l15Numbers.l1
   repeat' first
   | (with_reducible exact ih0 _ _ _ _ _ _ _)
   | (with_reducible exact ih1 _ _ _ _ _ _ _ _ _)
   | (with_reducible exact spec_ValueOf.mono _ _ _)
   | (with_reducible exact spec_l15Digit.mono _ _ _ _ _)
   | (with_reducible exact LeO.refl _)
   | (with_reducible exact LeO.none _)
   | (with_reducible refine LeO.ite ?_ ?_)
   | (with_reducible refine LeO.bind ?_ (fun _ => ?_))
   | exact ih0 _ _ _ _ _ _ _
   | exact ih1 _ _ _ _ _ _ _ _ _
   | exact spec_ValueOf.mono _ _ _
   | exact spec_l15Digit.mono _ _ _ _ _
   | exact LeO.none _
   | refine LeO.ite ?_ ?_
   | refine LeO.bind ?_ (fun _ => ?_)
theorem spec_l15Numbers.mono : ∀ a0 a1 a2 a3 a4 k, LeO (spec_l15Numbers.f k a0 a1 a2 a3 a4) (spec_l15Numbers.f (k + 1) a0 a1 a2 a3 a4) := by
 intro a0 a1 a2 a3 a4 k
 obtain ⟨ih0, ih1⟩ := spec_l15Numbers.mono_l k
 unfold spec_l15Numbers.f
 repeat' first
   | (with_reducible exact ih0 _ _ _ _ _ _ _)
   | (with_reducible exact ih1 _ _ _ _ _ _ _ _ _)
   | (with_reducible exact spec_ValueOf.mono _ _ _)
   | (with_reducible exact spec_l15Digit.mono _ _ _ _ _)
   | (with_reducible exact LeO.refl _)
   | (with_reducible exact LeO.none _)
   | (with_reducible refine LeO.ite ?_ ?_)
   | (with_reducible refine LeO.bind ?_ (fun _ => ?_))
   | exact ih0 _ _ _ _ _ _ _
   | exact ih1 _ _ _ _ _ _ _ _ _
   | exact spec_ValueOf.mono _ _ _
   | exact spec_l15Digit.mono _ _ _ _ _
   | exact LeO.none _
   | refine LeO.ite ?_ ?_
   | refine LeO.bind ?_ (fun _ => ?_)
def spec_l15Numbers.T9 : Bool × List (List Nat × List Nat) := (true, [([], []), ([], []), ([1], [1]), ([], []), ([3], [3]), ([], []), ([], []), ([5, 6], [5, 6]), ([7], [7]), ([], []), ([2, 4, 8, 9], [2, 4, 8, 9]), ([10], [10]), ([0, 11, 10], [0, 11]), ([12, 12, 0, 1, 2, 3, 4, 5, 6, 7, 8, 9, 10, 11, 12], [0, 12])])
def spec_l15Numbers.B9 : List Nat := [0, 0, 2, 0, 8, 0, 0, 96, 224, 0, 1022, 2046, 4095, 8191]
theorem spec_l15Numbers.tab9 : rtab .any (opsOf Try.f73 9) = spec_l15Numbers.T9 := by kernel_rfl
theorem spec_l15Numbers.bits9 : waitsOk spec_l15Numbers.T9.2 spec_l15Numbers.B9 = true := by kernel_rfl
set_option maxHeartbeats 8000000 in
set_option maxRecDepth 100000 in
theorem spec_l15Numbers.calls (k : Nat) (a0_0 : Int) (a0_1 : Int) (A0_2 : Option Addr) (c0_2 : Nat) (l0_2 : List (List Int)) (A0_3 : Option Addr) (c0_3 : Nat) (l0_3 : List Bool) (A1 : Option Addr) (c1 : Nat) (l1 : List Int) (r : List Int) (w : World) (hr0_2 : Kd.C (Kd.slice 3 (Kd.int .i64)) w A0_2 l0_2.length l0_2) (hc0_2 : l0_2.length ≤ c0_2) (hr0_3 : Kd.C Kd.bool w A0_3 l0_3.length l0_3) (hc0_3 : l0_3.length ≤ c0_3) (hr1 : Kd.C (Kd.int .i64) w A1 l1.length l1) (hc1 : l1.length ≤ c1) (h : spec_l15Numbers.f k a0_0 a0_1 l0_2 l0_3 l1 = some r) :
  Calls Try.prog 73 #[.agg #[.int .i64 a0_0, .int .i64 a0_1, .slice A0_2 l0_2.length c0_2, .slice A0_3 l0_3.length c0_3], .slice A1 l1.length c1] w fun e w' => ∃ v0_ : Value, e = .returned (v0_) ∧ Kd.R (Kd.int .i64) 3 w' w.heap.size (fun _ => True) v0_ r ∧ Below w.heap.size w w' := by
 have hu25 := Try.underlying25
 have HR0_2 := yA hr0_2
 have HC0_2 := yA hc0_2
 clear hr0_2 hc0_2
 have HR0_3 := yA hr0_3
 have HC0_3 := yA hc0_3
 clear hr0_3 hc0_3
 have HR1 := yA hr1
 have HC1 := yA hc1
 clear hr1 hc1
 have HB := yA (zV w.heap.size w)
 have H : (spec_l15Numbers.l0 k l1 (([] : List Int)) 0 a0_0 a0_1 l0_2 l0_3) = some r := h
 clear h
 obtain ⟨y593, hy593⟩ : ∃ y_ : List Int, y_ = (([] : List Int)) := ⟨_, rfl⟩
 replace H : (spec_l15Numbers.l0 k l1 y593 0 a0_0 a0_1 l0_2 l0_3) = some r := by first | (rw [hy593]; with_reducible exact H) | (have H2_ := (Option.bind_some _ _).symm.trans H; rw [hy593]; with_reducible exact H2_) | (have H2_ := (Option.bind_some _ _).symm.trans H; with_reducible exact H2_) | with_reducible exact H | (rw [hy593]; exact H) | exact H
 have Ny593 := yA hy593
 clear hy593
 have H' := yA H
 clear H
 go_enter Try.func73, Try.ntmps73
 go_wp2_with (first | ((with_reducible refine gate_dst (N := 2) rfl ?_); refine box_event ?hg (N := 2) ?hd (cs := #[.int .i64 a0_0, .int .i64 a0_1, .slice A0_2 l0_2.length c0_2, .slice A0_3 l0_3.length c0_3]) (t := 25) ?hr ?_; (case hd => rfl); (case hg => rfl); (case hr => first | (go_simp; done) | (go_simp; rfl)); intro gb592 hg w3 hbox hb; have n0_ := yA (zD (mB HB.out) hb); have n1_ := yA (hbox); have n2_ := yA ((by rw [hg]; exact (yX (mB HB.out)) : w.heap.size ≤ gb592)); have n3_ := yA ((by rw [hg]; exact (yX (mB HB.out)) : w.heap.size ≤ gb592)); clear HB; have HB := n0_; have BK592 := n1_; have GW592 := n2_; have GE592 := n3_; clear n0_ n1_ n2_ n3_; clear hb hbox hg) | ((with_reducible refine gate_dst (N := 9) rfl ?_); refine Kd.R_lit (Kd.int .i64) _ 3 ?hg (N := 9) ?hd (xs := ([] : List Int)) (inner := []) (ok := fun _ => True) (okp := fun _ => True) ?hr ?hp (fun _ hk => hk) trivial (zV _ _) (zT _) (by simp) ?_; (case hd => rfl); (case hg => rfl); (case hr => first | (go_simp; done) | (go_simp; rfl)); (case hp => exact (Reps.none _ _)); intro v594 w4 ho5 hb hg_ hnew_; clear hg_ hnew_; (first | rw [← Ny593.out] at ho5 | (simp only [Int.reduceToNat] at ho5; rw [← Ny593.out] at ho5)); have n0_ := yA (Kd.R_lower ho5 (yX (by with_reducible repeat first | exact HB.out | apply yO | apply yN | apply yP | refine yQ ?_ GE592.out))); have n1_ := yA (yU (mK BK592.out) hb); have n2_ := yA (zD (by with_reducible repeat first | exact HB.out | apply yO | apply yN | apply yP | refine yQ ?_ GE592.out) hb); clear BK592; clear HB; have HO595 := n0_; have BK592 := n1_; have HB := n2_; clear n0_ n1_ n2_; clear hb ho5))
 go_loopg [5, 6] k (fun kq v5 v6 w' => ∃ (x5_1 : List Int) (x6_1 : Int), v6 = .int .i64 x6_1 ∧ Aside0 (spec_l15Numbers.l0 kq l1 x5_1 x6_1 a0_0 a0_1 l0_2 l0_3 = some r) ∧ Aside0 (kq ≤ k) ∧ Aside0 (Kd.R (Kd.int .i64) 3 w' w.heap.size (fun _ => True) v5 x5_1) ∧ Aside0 (w'.heap[gb592]? = some (.cells #[.int .i64 a0_0, .int .i64 a0_1, (.slice A0_2 l0_2.length c0_2), (.slice A0_3 l0_3.length c0_3)] 25 (0, 0))) ∧ Aside0 (Below w.heap.size w w'))
 case atStart => exact ⟨(y593), (0), (by first | rfl | (simp; done) | (simp [*]; done)), H', ⟨zT _⟩, ⟨by (with_reducible repeat (first | apply yB | apply yC | apply yD)); exact HO595.out⟩, ⟨by (with_reducible repeat (first | refine yS ?_ _ | refine yT ?_ | refine yR ?_ _)); exact BK592.out⟩, ⟨by repeat (first | (with_reducible first | exact HB.out | apply yO | apply yN | apply yP | refine yQ ?_ GE592.out) | exact HB.out)⟩⟩
 case round =>
  clear H'
  try clear c1
  try clear p2
  obtain ⟨x5_1, x6_1, rfl, HA, HK1, HO_5, BK592, HB⟩ := hrel
  cases gk with
  | zero => exact absurd HA.out (by simp [spec_l15Numbers.l0])
  | succ k1 =>
   have H := HA.out
   clear HA
   simp only [spec_l15Numbers.l0] at H
   by_cases c6 : x6_1 < a0_1
   ·rw [if_pos c6] at H
    have c6b0 : decide (x6_1 < a0_1) = true := zH c6
    clear c6
    obtain ⟨y596, hy596⟩ : ∃ y_ : List Int, y_ = (([] : List Int)) := ⟨_, rfl⟩
    replace H : (spec_l15Numbers.l1 k1 l1 x5_1 x6_1 y596 0 a0_0 a0_1 l0_2 l0_3) = some r := by first | (rw [hy596]; with_reducible exact H) | (have H2_ := (Option.bind_some _ _).symm.trans H; rw [hy596]; with_reducible exact H2_) | (have H2_ := (Option.bind_some _ _).symm.trans H; with_reducible exact H2_) | with_reducible exact H | (rw [hy596]; exact H) | exact H
    have Ny596 := yA hy596
    clear hy596
    have H' := yA H
    clear H
    have hcz7_0 : wr.cell? ⟨gb592, 0, none⟩ = some (.int .i64 a0_0) := (yV BK592.out 0).trans rfl
    have hcz7_1 : wr.cell? ⟨gb592, 1, none⟩ = some (.int .i64 a0_1) := (yV BK592.out 1).trans rfl
    have hcz7_2 : wr.cell? ⟨gb592, 2, none⟩ = some (.slice A0_2 l0_2.length c0_2) := (yV BK592.out 2).trans rfl
    have hcz7_3 : wr.cell? ⟨gb592, 3, none⟩ = some (.slice A0_3 l0_3.length c0_3) := (yV BK592.out 3).trans rfl
    have hfz7_0 := yW BK592.out 0
    have hfz7_1 := yW BK592.out 1
    have hfz7_2 := yW BK592.out 2
    have hfz7_3 := yW BK592.out 3
    go_wp2_with (first | ((with_reducible refine gate_dst (N := 16) rfl ?_); refine Kd.R_lit (Kd.int .i64) _ 3 ?hg (N := 16) ?hd (xs := ([] : List Int)) (inner := []) (ok := fun _ => True) (okp := fun _ => True) ?hr ?hp (fun _ hk => hk) trivial (zV _ _) (zT _) (by simp) ?_; (case hd => rfl); (case hg => rfl); (case hr => first | (go_simp; done) | (go_simp; rfl)); (case hp => exact (Reps.none _ _)); intro v597 w8 ho9 hb hg_ hnew_; clear hg_ hnew_; (first | rw [← Ny596.out] at ho9 | (simp only [Int.reduceToNat] at ho9; rw [← Ny596.out] at ho9)); have n0_ := yA (zO (mR HO_5.out) (yY ho9) hb); have n1_ := yA (Kd.R_lower (Kd.R_new' ho9 (yZ (mR HO_5.out))) (yX (by with_reducible repeat first | exact HB.out | apply yO | apply yN | apply yP | refine yQ ?_ GE592.out))); have n2_ := yA (yU (mK BK592.out) hb); have n3_ := yA (zD (by with_reducible repeat first | exact HB.out | apply yO | apply yN | apply yP | refine yQ ?_ GE592.out) hb); clear HO_5; clear BK592; clear HB; have HO_5 := n0_; have HO598 := n1_; have BK592 := n2_; have HB := n3_; clear n0_ n1_ n2_ n3_; clear hb ho9))
    go_loopg [7, 8] k1 (fun kq v7 v8 w' => ∃ (x7_2 : List Int) (x8_2 : Int), v8 = .int .i64 x8_2 ∧ Aside0 (spec_l15Numbers.l1 kq l1 x5_1 x6_1 x7_2 x8_2 a0_0 a0_1 l0_2 l0_3 = some r) ∧ Aside0 (kq ≤ k1) ∧ Aside0 (Kd.R (Kd.int .i64) 3 w' w.heap.size (fun k_ => some k_ ≠ (v7 : Value).ownBlock) u5 x5_1) ∧ Aside0 (Kd.R (Kd.int .i64) 3 w' w.heap.size (fun k_ => some k_ ≠ (u5 : Value).ownBlock) v7 x7_2) ∧ Aside0 (w'.heap[gb592]? = some (.cells #[.int .i64 a0_0, .int .i64 a0_1, (.slice A0_2 l0_2.length c0_2), (.slice A0_3 l0_3.length c0_3)] 25 (0, 0))) ∧ Aside0 (Below w.heap.size w w'))
    case atStart => exact ⟨(y596), (0), (by first | rfl | (simp; done) | (simp [*]; done)), H', ⟨zT _⟩, ⟨by (with_reducible repeat (first | apply yB | apply yC | apply yD)); exact zP HO_5.out (fun _ hk => hk.2)⟩, ⟨by (with_reducible repeat (first | apply yB | apply yC | apply yD)); exact zP HO598.out (fun _ hk => hk.2)⟩, ⟨by (with_reducible repeat (first | refine yS ?_ _ | refine yT ?_ | refine yR ?_ _)); exact BK592.out⟩, ⟨by repeat (first | (with_reducible first | exact HB.out | apply yO | apply yN | apply yP | refine yQ ?_ GE592.out) | exact HB.out)⟩⟩
    case round =>
     clear H'
     try clear c1
     try clear p2
     try clear c6
     try clear c6b0
     try clear c7
     try clear hcz7_0
     try clear hcz7_1
     try clear hcz7_2
     try clear hcz7_3
     try clear hfz7_0
     try clear hfz7_1
     try clear hfz7_2
     try clear hfz7_3
     try clear p2
     obtain ⟨x7_2, x8_2, rfl, HA, HK2, HO_5, HO_7, BK592, HB⟩ := hrel
     cases gk with
     | zero => exact absurd HA.out (by simp [spec_l15Numbers.l1])
     | succ k2 =>
      have H := HA.out
      clear HA
      simp only [spec_l15Numbers.l1] at H
      by_cases c10 : x8_2 < (l1.length : Int)
      ·rw [if_pos c10] at H
       have c10b0 : decide (x8_2 < (l1.length : Int)) = true := zH c10
       clear c10
       by_cases c11 : 0 ≤ x8_2
       ·rw [if_pos c11] at H
        have c11b0 : decide (0 ≤ x8_2) = true := zH c11
        clear c11
        replace H := Option.bind_eq_some_iff.mp H
        obtain ⟨t600, A120, H⟩ := H
        replace H : (if x7_2.length < 17592186044416 then (spec_l15Numbers.l1 k2 l1 x5_1 x6_1 (x7_2 ++ [t600]) (wrap64 (x8_2 + 1)) a0_0 a0_1 l0_2 l0_3) else (none)) = some r := H
        have A12 := yA A120
        clear A120
        by_cases c13 : x7_2.length < 17592186044416
        ·rw [if_pos c13] at H
         have LMc13 := yA c13
         clear c13
         obtain ⟨y601, hy601⟩ : ∃ y_ : List Int, y_ = (x7_2 ++ [t600]) := ⟨_, rfl⟩
         replace H : (spec_l15Numbers.l1 k2 l1 x5_1 x6_1 y601 (wrap64 (x8_2 + 1)) a0_0 a0_1 l0_2 l0_3) = some r := by first | (rw [hy601]; with_reducible exact H) | (have H2_ := (Option.bind_some _ _).symm.trans H; rw [hy601]; with_reducible exact H2_) | (have H2_ := (Option.bind_some _ _).symm.trans H; with_reducible exact H2_) | with_reducible exact H | (rw [hy601]; exact H) | exact H
         have Ny601 := yA hy601
         clear hy601
         have H' := yA H
         clear H
         try go_wp2
         have n0_ := yA (yD HO_5.out)
         have n1_ := yA (yD HO_7.out)
         have n2_ := yA (yT BK592.out)
         have n3_ := yA (yP HB.out)
         clear HO_5
         clear HO_7
         clear BK592
         clear HB
         have HO_5 := n0_
         have HO_7 := n1_
         have BK592 := n2_
         have HB := n3_
         clear n0_ n1_ n2_ n3_
         have p599 : 0 ≤ (x8_2 : Int) := zG (by first | (with_reducible assumption) | assumption)
         have q599 : x8_2 < (l1.length : Int) := zG (by first | (with_reducible assumption) | assumption)
         obtain ⟨ad599, e599, hx599_0⟩ := Kd.at_int HR1.out x8_2 p599 q599
         have hw599_0 := hx599_0
         cases e599
         try replace hx599_0 := (HB.out.cell (zE w _ hx599_0)).trans hx599_0
         replace p599 := eq_true p599
         replace q599 := eq_true q599
         refine start_ (n := 14) (S := fun w' => w'.cell? ⟨gb592, 0, none⟩ = some (.int .i64 a0_0) ∧ w'.cell? ⟨gb592, 1, none⟩ = some (.int .i64 a0_1) ∧ w'.cell? ⟨gb592, 2, none⟩ = some (.slice A0_2 l0_2.length c0_2) ∧ w'.cell? ⟨gb592, 3, none⟩ = some (.slice A0_3 l0_3.length c0_3) ∧ w'.cell? (ad599.add (x8_2).toNat) = some (.int .i64 (rd l1 x8_2))) (ds := []) #[false, false, false, false, false, false, false, false, false, false, false, false, false, false] (by kernel_rfl) rfl rfl ⟨(yV BK592.out 0).trans rfl, (yV BK592.out 1).trans rfl, (yV BK592.out 2).trans rfl, (yV BK592.out 3).trans rfl, ((HB.out.cell (zE w _ hw599_0)).trans hw599_0)⟩ (fun hHeld => ?_); refine with_tabW spec_l15Numbers.tab9 spec_l15Numbers.bits9 (fun HT_ HW_ => ?_)
         generalize wr.drew = w14 at HO_5 HO_7 BK592 HB hx599_0 hHeld ⊢
         refine pure_ (i := 0) (N := some 23) (v := ?_) (a' := ?_) #[true, false, false, false, false, false, false, false, false, false, false, false, false, false] rfl rfl (any_of HT_.out (by kernel_rfl)) (fun _ _ _ h => h) (Or.inl ⟨by rfl, ?_⟩) ?_ ?_
         rotate_left
         ·intro w'
          go_simp
          with_reducible rfl
         rotate_left
         ·simp only [Act.put, zA, zB, zC, i64_w, i32_w]
          rfl
         refine pure_ (i := 1) (N := some 24) (v := ?_) (a' := ?_) #[true, true, false, false, false, false, false, false, false, false, false, false, false, false] rfl rfl (any_of HT_.out (by kernel_rfl)) (fun _ _ _ h => h) (Or.inl ⟨by rfl, ?_⟩) ?_ ?_
         rotate_left
         ·intro w'
          go_simp
          with_reducible rfl
         rotate_left
         ·simp only [Act.put, zA, zB, zC, i64_w, i32_w]
          rfl
         refine pure_ (i := 3) (N := some 26) (v := ?_) (a' := ?_) #[true, true, false, true, false, false, false, false, false, false, false, false, false, false] rfl rfl (any_of HT_.out (by kernel_rfl)) (fun _ _ _ h => h) (Or.inl ⟨by rfl, ?_⟩) ?_ ?_
         rotate_left
         ·intro w'
          go_simp
          with_reducible rfl
         rotate_left
         ·simp only [Act.put, zA, zB, zC, i64_w, i32_w]
          rfl
         refine pure_ (i := 5) (N := some 28) (v := ?_) (a' := ?_) #[true, true, false, true, false, true, false, false, false, false, false, false, false, false] rfl rfl (any_of HT_.out (by kernel_rfl)) (fun _ _ _ h => h) (Or.inl ⟨by rfl, ?_⟩) ?_ ?_
         rotate_left
         ·intro w'
          go_simp
          with_reducible rfl
         rotate_left
         ·simp only [Act.put, zA, zB, zC, i64_w, i32_w]
          rfl
         refine pure_ (i := 6) (N := some 29) (v := ?_) (a' := ?_) #[true, true, false, true, false, true, true, false, false, false, false, false, false, false] rfl rfl (any_of HT_.out (by kernel_rfl)) (fun _ _ _ h => h) (Or.inl ⟨by rfl, ?_⟩) ?_ ?_
         rotate_left
         ·intro w'
          go_simp
          with_reducible rfl
         rotate_left
         ·simp only [Act.put, zA, zB, zC, i64_w, i32_w]
          rfl
         refine pure_ (i := 7) (N := some 30) (v := ?_) (a' := ?_) #[true, true, false, true, false, true, true, true, false, false, false, false, false, false] rfl rfl (any_of HT_.out (by kernel_rfl)) (fun _ _ _ h => h) (Or.inl ⟨by rfl, ?_⟩) ?_ ?_
         rotate_left
         ·intro w'
          go_simp
          with_reducible rfl
         rotate_left
         ·simp only [Act.put, zA, zB, zC, i64_w, i32_w]
          rfl
         refine pure_ (i := 9) (N := some 32) (v := ?_) (a' := ?_) #[true, true, false, true, false, true, true, true, false, true, false, false, false, false] rfl rfl (any_of HT_.out (by kernel_rfl)) (fun _ _ _ h => h) (Or.inl ⟨by rfl, ?_⟩) ?_ ?_
         rotate_left
         ·intro w'
          go_simp
          with_reducible rfl
         rotate_left
         ·simp only [Act.put, zA, zB, zC, i64_w, i32_w]
          rfl
         refine take_ (i := 2) (N := some 25) (v := ?_) (a' := ?_) #[true, true, true, true, false, true, true, true, false, true, false, false, false, false] rfl rfl (take_ofW HT_.out HW_.out (by kernel_rfl)) (fun _ _ _ h => h) (Or.inl ⟨by rfl, ?_⟩) hHeld ?_ ?_
         rotate_left
         ·rintro w' ⟨s0, s1, s2, s3, s4⟩
          go_simp
          with_reducible rfl
         rotate_left
         ·simp only [Act.put, zA, zB, zC, i64_w, i32_w]
          rfl
         refine take_ (i := 4) (N := some 27) (v := ?_) (a' := ?_) #[true, true, true, true, true, true, true, true, false, true, false, false, false, false] rfl rfl (take_ofW HT_.out HW_.out (by kernel_rfl)) (fun _ _ _ h => h) (Or.inl ⟨by rfl, ?_⟩) hHeld ?_ ?_
         rotate_left
         ·rintro w' ⟨s0, s1, s2, s3, s4⟩
          go_simp
          with_reducible rfl
         rotate_left
         ·simp only [Act.put, zA, zB, zC, i64_w, i32_w]
          rfl
         refine take_ (i := 8) (N := some 31) (v := ?_) (a' := ?_) #[true, true, true, true, true, true, true, true, true, true, false, false, false, false] rfl rfl (take_ofW HT_.out HW_.out (by kernel_rfl)) (fun _ _ _ h => h) (Or.inl ⟨by rfl, ?_⟩) hHeld ?_ ?_
         rotate_left
         ·rintro w' ⟨s0, s1, s2, s3, s4⟩
          go_simp
          with_reducible rfl
         rotate_left
         ·simp only [Act.put, zA, zB, zC, i64_w, i32_w]
          rfl
         refine one_ (i := 10) (N := some 33) #[true, true, true, true, true, true, true, true, true, true, true, false, false, false] rfl rfl (one_of HT_.out (by kernel_rfl)) (by decide) (fun K hK => ?_)
         refine goes_ Try.func88 (by kernel_rfl) rfl #[.int .i64 a0_0, .int .i64 a0_1, .int .i64 (rd l1 x8_2), .int .i64 x6_1] (by rfl) rfl rfl (by (try simp only [zI, zJ, zK]); first | done | rfl | (simp only [zL, zM]; rfl)) ?_
         with_reducible refine (spec_l15Digit.calls k2 a0_0 a0_1 (rd l1 x8_2) x6_1 t600 _ A12.out).mono ?_
         rintro e w' ⟨rfl, ⟨nd, rfl⟩⟩
         refine ⟨_, rfl, ?_⟩
         refine hK.out _ _ ⟨(yV BK592.out 0).trans rfl, (yV BK592.out 1).trans rfl, (yV BK592.out 2).trans rfl, (yV BK592.out 3).trans rfl, ((HB.out.cell (zE w _ hw599_0)).trans hw599_0)⟩ (fun hHeld => ?_)
         clear hK K
         refine norm_ (a' := ?_) ?_ ?_
         rotate_left
         ·show Act.put _ (some 33) _ = _
          simp only [Act.put, zA, zB, zC, i64_w, i32_w]
          rfl
         refine one_ (i := 11) (N := some 34) #[true, true, true, true, true, true, true, true, true, true, true, true, false, false] rfl rfl (one_of HT_.out (by kernel_rfl)) (by decide) (fun K hK => ?_)
         refine value_ (w1 := ?_) (v := ?_) (by rfl) rfl ?_ ?_
         rotate_left 2
         ·go_simp
          constructor
          ·rfl
          ·rfl
         refine hK.out _ _ ⟨(yV (yR BK592.out _) 0).trans rfl, (yV (yR BK592.out _) 1).trans rfl, (yV (yR BK592.out _) 2).trans rfl, (yV (yR BK592.out _) 3).trans rfl, (World.cell?_alloc_lt _ _ _ (zE _ _ (((HB.out.cell (zE w _ hw599_0)).trans hw599_0)))).trans (((HB.out.cell (zE w _ hw599_0)).trans hw599_0))⟩ (fun hHeld => ?_)
         clear hK K
         refine norm_ (a' := ?_) ?_ ?_
         rotate_left
         ·show Act.put _ (some 34) _ = _
          simp only [Act.put, zA, zB, zC, i64_w, i32_w]
          rfl
         refine one_ (i := 12) (N := some 35) #[true, true, true, true, true, true, true, true, true, true, true, true, true, false] rfl rfl (one_of HT_.out (by kernel_rfl)) (by decide) (fun K hK => ?_)
         refine Kd.R_append_step (Kd.int .i64) (w0 := w) w.heap.size (by rfl) (.tmp 23) (.tmp 34) 38 3 (.int .i64 0) 8 rfl Try.underlying38 info3 rfl (by decide) (by omega) u7 x7_2 t600 [.int .i64 t600] (fun k_ => some k_ ≠ (u5 : Value).ownBlock) (fun _ => False) rfl rfl ?aP (fun _ hk => hk.elim) ?aF ?aO ?aB ?aS ?aL ?_
         (case aP => exact rfl)
         (case aB => exact (by with_reducible repeat first | exact HB.out | apply yO | apply yN | apply yP | refine yQ ?_ GE592.out))
         (case aF => exact (fun k_ hk => Kd.fresh' (yZ (mR HO_5.out)) k_ hk))
         (case aO => exact (mR HO_7.out))
         (case aS => exact (yX (by with_reducible repeat first | exact HB.out | apply yO | apply yN | apply yP | refine yQ ?_ GE592.out)))
         (case aL => have := LMc13.out; omega)
         intro v602 w15 ho hb hg hat
         rw [← Ny601.out] at ho
         have n0_ := yA (Kd.R_after (ok := (fun _ => True)) (mR (zP HO_5.out (fun _ hk => ⟨trivial, hk⟩))) hg hat)
         have n1_ := yA (blk_grown (g := gb592) (o := .cells #[.int .i64 a0_0, .int .i64 a0_1, .slice A0_2 l0_2.length c0_2, .slice A0_3 l0_3.length c0_3] 25 (0, 0)) (mK BK592.out) hg (zW HO_7.out BK592.out (by decide)))
         have n2_ := yA (hb)
         have n3_ := yA (ho)
         clear HO_5
         clear BK592
         clear HB
         clear HO_7
         have HO_5 := n0_
         have BK592 := n1_
         have HB := n2_
         have HO603 := n3_
         clear n0_ n1_ n2_ n3_
         clear ho hb hg hat
         refine hK.out _ _ ⟨(yV BK592.out 0).trans rfl, (yV BK592.out 1).trans rfl, (yV BK592.out 2).trans rfl, (yV BK592.out 3).trans rfl, ((HB.out.cell (zE w _ hw599_0)).trans hw599_0)⟩ (fun hHeld => ?_)
         clear hK K
         refine norm_ (a' := ?_) ?_ ?_
         rotate_left
         ·show Act.put _ (some 35) _ = _
          simp only [Act.put, zA, zB, zC, i64_w, i32_w]
          rfl
         refine pure_ (i := 13) (N := some 7) (v := ?_) (a' := ?_) #[true, true, true, true, true, true, true, true, true, true, true, true, true, true] rfl rfl (any_of HT_.out (by kernel_rfl)) (fun _ _ _ h => h) (Or.inl ⟨by rfl, ?_⟩) ?_ ?_
         rotate_left
         ·intro w'
          go_simp
          with_reducible rfl
         rotate_left
         ·simp only [Act.put, zA, zB, zC, i64_w, i32_w]
          rfl
         refine done_ (done_of HT_.out (by kernel_rfl)) ?_
         try go_wp2
         go_roundg k2
         case measure => have := HK1.out; have := HK2.out; omega
         case rel => exact ⟨(y601), (wrap64 (x8_2 + 1)), (by first | rfl | (simp; done) | (simp [*]; done)), H', ⟨by have := HK1.out; have := HK2.out; omega⟩, ⟨by (with_reducible repeat (first | apply yB | apply yC | apply yD)); exact zP HO_5.out (fun _ hk => hk.2)⟩, ⟨by (with_reducible repeat (first | apply yB | apply yC | apply yD)); exact HO603.out⟩, ⟨by (with_reducible repeat (first | refine yS ?_ _ | refine yT ?_ | refine yR ?_ _)); exact BK592.out⟩, ⟨by repeat (first | (with_reducible first | exact HB.out | apply yO | apply yN | apply yP | refine yQ ?_ GE592.out) | exact HB.out)⟩⟩
        ·rw [if_neg c13] at H
         exact absurd H (by simp)
       ·rw [if_neg c11] at H
        exact absurd H (by simp)
      ·rw [if_neg c10] at H
       have c10b0 : decide (x8_2 < (l1.length : Int)) = false := decide_eq_false c10
       clear c10
       replace H := Option.bind_eq_some_iff.mp H
       obtain ⟨t604, A160, H⟩ := H
       replace H : (if x5_1.length < 17592186044416 then (spec_l15Numbers.l0 k2 l1 (x5_1 ++ [t604]) (wrap64 (x6_1 + 1)) a0_0 a0_1 l0_2 l0_3) else (none)) = some r := H
       have A16 := yA A160
       clear A160
       by_cases c17 : x5_1.length < 17592186044416
       ·rw [if_pos c17] at H
        have LMc17 := yA c17
        clear c17
        obtain ⟨y605, hy605⟩ : ∃ y_ : List Int, y_ = (x5_1 ++ [t604]) := ⟨_, rfl⟩
        replace H : (spec_l15Numbers.l0 k2 l1 y605 (wrap64 (x6_1 + 1)) a0_0 a0_1 l0_2 l0_3) = some r := by first | (rw [hy605]; with_reducible exact H) | (have H2_ := (Option.bind_some _ _).symm.trans H; rw [hy605]; with_reducible exact H2_) | (have H2_ := (Option.bind_some _ _).symm.trans H; with_reducible exact H2_) | with_reducible exact H | (rw [hy605]; exact H) | exact H
        have Ny605 := yA hy605
        clear hy605
        have H' := yA H
        clear H
        have hcz18_0 : wr.cell? ⟨gb592, 0, none⟩ = some (.int .i64 a0_0) := (yV BK592.out 0).trans rfl
        have hcz18_1 : wr.cell? ⟨gb592, 1, none⟩ = some (.int .i64 a0_1) := (yV BK592.out 1).trans rfl
        have hcz18_2 : wr.cell? ⟨gb592, 2, none⟩ = some (.slice A0_2 l0_2.length c0_2) := (yV BK592.out 2).trans rfl
        have hcz18_3 : wr.cell? ⟨gb592, 3, none⟩ = some (.slice A0_3 l0_3.length c0_3) := (yV BK592.out 3).trans rfl
        have hfz18_0 := yW BK592.out 0
        have hfz18_1 := yW BK592.out 1
        have hfz18_2 := yW BK592.out 2
        have hfz18_3 := yW BK592.out 3
        obtain ⟨Ao19, co19, eo19⟩ := Kd.R_slice HO_7.out
        subst eo19
        go_wp2_with (first | ((with_reducible refine zS (f := 96) rfl ?_); refine goesL_ (some 40) rfl rfl Try.func96 (by kernel_rfl) rfl #[.slice Ao19 x7_2.length co19, .int .i64 a0_0] rfl (by (try simp only [zI, zJ, zK]); first | done | rfl | (simp only [zL, zM]; rfl)) ?_; (with_reducible refine (spec_ValueOf.calls k2 _ _ x7_2 a0_0 t604 _ ?side1 ?side2 A16.out).mono ?_); (case side1 => exact mC ((zN HO_7.out).2.2)); (case side2 => exact (zN HO_7.out).2.1); rintro e w' ⟨rfl, ⟨nd, rfl⟩⟩; refine ⟨_, rfl, ?_⟩) | ((with_reducible refine gate_builtin (b := .append) (xs := #[.tmp 36, .tmp 41]) rfl ?_); at_builtin; refine Kd.R_append (Kd.int .i64) (w0 := w) w.heap.size rfl (.tmp 36) (.tmp 41) 38 3 (.int .i64 0) 8 rfl Try.underlying38 info3 rfl (by decide) (by omega) u5 x5_1 t604 [.int .i64 t604] (fun k_ => some k_ ≠ (.slice Ao19 x7_2.length co19 : Value).ownBlock) (fun _ => False) rfl rfl ?aP (fun _ hk => hk.elim) ?aF ?aO ?aB ?aS ?aL ?_; (case aP => exact rfl); (case aB => exact (by with_reducible repeat first | exact HB.out | apply yO | apply yN | apply yP | refine yQ ?_ GE592.out)); (case aF => exact (fun k_ hk => Kd.fresh' (yZ (mR HO_7.out)) k_ hk)); (case aO => exact (mR HO_5.out)); (case aS => exact (yX (by with_reducible repeat first | exact HB.out | apply yO | apply yN | apply yP | refine yQ ?_ GE592.out))); (case aL => have := LMc17.out; omega); intro v606 w20 ho hb hg hat; rw [← Ny605.out] at ho; have n0_ := yA (Kd.R_after (ok := (fun _ => True)) (mR (zP HO_7.out (fun _ hk => ⟨trivial, hk⟩))) hg hat); have n1_ := yA (blk_grown (g := gb592) (o := .cells #[.int .i64 a0_0, .int .i64 a0_1, .slice A0_2 l0_2.length c0_2, .slice A0_3 l0_3.length c0_3] 25 (0, 0)) (mK BK592.out) hg (zW HO_5.out BK592.out (by decide))); have n2_ := yA (hb); have n3_ := yA (ho); clear HO_7; clear BK592; clear HB; clear HO_5; have HO_7 := n0_; have BK592 := n1_; have HB := n2_; have HO607 := n3_; clear n0_ n1_ n2_ n3_; clear ho hb hg hat))
        go_roundg k2
        case measure => have := HK1.out; have := HK2.out; omega
        case rel => exact ⟨(y605), (wrap64 (x6_1 + 1)), (by first | rfl | (simp; done) | (simp [*]; done)), H', ⟨by have := HK1.out; have := HK2.out; omega⟩, ⟨by (with_reducible repeat (first | apply yB | apply yC | apply yD)); exact zP HO607.out (fun _ hk => trivial)⟩, ⟨by (with_reducible repeat (first | refine yS ?_ _ | refine yT ?_ | refine yR ?_ _)); exact BK592.out⟩, ⟨by repeat (first | (with_reducible first | exact HB.out | apply yO | apply yN | apply yP | refine yQ ?_ GE592.out) | exact HB.out)⟩⟩
       ·rw [if_neg c17] at H
        exact absurd H (by simp)
   ·rw [if_neg c6] at H
    have c6b0 : decide (x6_1 < a0_1) = false := decide_eq_false c6
    clear c6
    obtain rfl := zU H
    have hcz21_0 : wr.cell? ⟨gb592, 0, none⟩ = some (.int .i64 a0_0) := (yV BK592.out 0).trans rfl
    have hcz21_1 : wr.cell? ⟨gb592, 1, none⟩ = some (.int .i64 a0_1) := (yV BK592.out 1).trans rfl
    have hcz21_2 : wr.cell? ⟨gb592, 2, none⟩ = some (.slice A0_2 l0_2.length c0_2) := (yV BK592.out 2).trans rfl
    have hcz21_3 : wr.cell? ⟨gb592, 3, none⟩ = some (.slice A0_3 l0_3.length c0_3) := (yV BK592.out 3).trans rfl
    have hfz21_0 := yW BK592.out 0
    have hfz21_1 := yW BK592.out 1
    have hfz21_2 := yW BK592.out 2
    have hfz21_3 := yW BK592.out 3
    go_wp2
    go_ret
    exact ⟨_, by first | rfl | (simp [errW_none, errW_some] <;> rfl) | (simp [*, errW_none, errW_some] <;> rfl), by (with_reducible repeat (first | apply yB | apply yC | apply yD)); exact HO_5.out, by repeat (first | (with_reducible first | exact HB.out | apply yO | apply yN | apply yP | refine yQ ?_ GE592.out) | exact HB.out)⟩

end Go.Proofs.Ytgopcliohchkmaa.Q
