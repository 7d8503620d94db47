-- written by a program of this session
-- squeezed
-- compact
-- shrunk
import Derived.Test.YtmkeicahnnlalaaQ0
namespace Go.Proofs.Ytmkeicahnnlalaa.Q
open Go.RowKit Go.Proofs.YtmkeicahnnlalaaW.PrintWords Go.Proofs.YtmkeicahnnlalaaW.PrintLast Go.Proofs.YtmkeicahnnlalaaW.PrintMore
set_option linter.unusedVariables false
set_option linter.unusedSimpArgs false

/-! ### impl_allWords: function 63 -/
mutual
def impl_allWords.l0 : Nat → Int → List (List Int) → Int → Int → Option ((List (List Int)))
 | 0, _, _, _, _ => none
 | k + 1, x0, x5, x12, x13 => if x13 < x12 then (impl_allWords.l1 k x0 (([] : List (List Int))) x12 x13 x5 (x5.length : Int) 0) else (some x5)
def impl_allWords.l1 : Nat → Int → List (List Int) → Int → Int → List (List Int) → Int → Int → Option ((List (List Int)))
 | 0, _, _, _, _, _, _, _ => none
 | k + 1, x0, x6, x12, x13, x16, x17, x18 => if x18 < x17 then (if 0 ≤ x18 then (if x18 < (x16.length : Int) then (impl_allWords.l2 k x0 x6 (rd_L1 x16 x18) x12 x13 x16 x17 x18 x0 0) else (none)) else (none)) else (impl_allWords.l0 k x0 x6 x12 (wrap64 (x13 + 1)))
def impl_allWords.l2 : Nat → Int → List (List Int) → List Int → Int → Int → List (List Int) → Int → Int → Int → Int → Option ((List (List Int)))
 | 0, _, _, _, _, _, _, _, _, _, _ => none
 | k + 1, x0, x6, x8, x12, x13, x16, x17, x18, x22, x23 => if x23 < x22 then ((some (([] : List Int) : List Int)).bind fun y991 => (if y991.length + x8.length < 17592186044416 then ((some (y991 ++ x8 : List Int)).bind fun y994 => (if y994.length < 17592186044416 then (if x6.length < 5864062014805 then (impl_allWords.l2 k x0 (x6 ++ [(y994 ++ [x23])]) x8 x12 x13 x16 x17 x18 x22 (wrap64 (x23 + 1))) else (none)) else (none))) else (none))) else (impl_allWords.l1 k x0 x6 x12 x13 x16 x17 (wrap64 (x18 + 1)))
end
def impl_allWords.f (k : Nat) (a0 : Int) (a1 : Int) : Option ((List (List Int))) := impl_allWords.l0 k a0 (([(([] : List Int))] : List (List Int))) a1 0
theorem impl_allWords.mono_l : ∀ k, (∀ y0 y1 y2 y3, LeO (impl_allWords.l0 k y0 y1 y2 y3) (impl_allWords.l0 (k + 1) y0 y1 y2 y3)) ∧ (∀ y0 y1 y2 y3 y4 y5 y6, LeO (impl_allWords.l1 k y0 y1 y2 y3 y4 y5 y6) (impl_allWords.l1 (k + 1) y0 y1 y2 y3 y4 y5 y6)) ∧ (∀ y0 y1 y2 y3 y4 y5 y6 y7 y8 y9, LeO (impl_allWords.l2 k y0 y1 y2 y3 y4 y5 y6 y7 y8 y9) (impl_allWords.l2 (k + 1) y0 y1 y2 y3 y4 y5 y6 y7 y8 y9))
 | 0 => ⟨fun _ _ _ _ r h => by simp [impl_allWords.l0] at h, fun _ _ _ _ _ _ _ r h => by simp [impl_allWords.l1] at h, fun _ _ _ _ _ _ _ _ _ _ r h => by simp [impl_allWords.l2] at h⟩
 | k + 1 => by
  obtain ⟨ih0, ih1, ih2⟩ := impl_allWords.mono_l k
  refine ⟨?_, ?_, ?_⟩ <;> intros <;> first | unfold impl_allWords.l0 | unfold impl_allWords.l1 | unfold impl_allWords.l2
  all_goals repeat' (with_reducible first | exact ih0 _ _ _ _ | exact ih1 _ _ _ _ _ _ _ | exact ih2 _ _ _ _ _ _ _ _ _ _ | exact LeO.refl _ | exact LeO.none _ | refine LeO.ite ?_ ?_ | refine LeO.bind ?_ fun _ => ?_)
theorem impl_allWords.mono : ∀ a0 a1 k, LeO (impl_allWords.f k a0 a1) (impl_allWords.f (k + 1) a0 a1) := by
 intro a0 a1 k
 obtain ⟨ih0, ih1, ih2⟩ := impl_allWords.mono_l k
 unfold impl_allWords.f
 repeat' (with_reducible first | exact ih0 _ _ _ _ | exact ih1 _ _ _ _ _ _ _ | exact ih2 _ _ _ _ _ _ _ _ _ _ | exact LeO.refl _ | exact LeO.none _ | refine LeO.ite ?_ ?_ | refine LeO.bind ?_ fun _ => ?_)
set_option maxHeartbeats 8000000 in
set_option maxRecDepth 100000 in
theorem impl_allWords.calls (k : Nat) (a0 : Int) (a1 : Int) (r : List (List Int)) (w : World) (h : impl_allWords.f k a0 a1 = some r) :
  Calls Try.prog 63 #[.int .i64 a0, .int .i64 a1] w fun e w' => ∃ v0_ : Value, e = .returned (v0_) ∧ Kd.N (Kd.slice 3 (Kd.int .i64)) 23 w' w.heap.size (fun k_ => (w.heap.size ≤ k_)) v0_ r ∧ Below w.heap.size w w' := by
 have HB := yA (zV w.heap.size w)
 have H : (impl_allWords.l0 k a0 (([(([] : List Int))] : List (List Int))) a1 0) = some r := h
 clear h
 (first | ((with_reducible replace H := bS H); obtain ⟨y981, Ny981, H⟩ := H) | (obtain ⟨y981, Ny981⟩ : ∃ y_ : List Int, y_ = (([] : List Int)) := ⟨_, rfl⟩; rw [← Ny981] at H; replace Ny981 := yA Ny981))
 (first | ((with_reducible replace H := bS H); obtain ⟨y984, Ny984, H⟩ := H) | (obtain ⟨y984, Ny984⟩ : ∃ y_ : List (List Int), y_ = (([y981] : List (List Int))) := ⟨_, rfl⟩; rw [← Ny984] at H; replace Ny984 := yA Ny984))
 have H' := yA H
 clear H
 go_enter Try.func63, Try.ntmps63
 go_wp2_with (first | ((with_reducible refine gate_dst (N := 10) rfl ?_); refine Kd.R_lit (Kd.int .i64) _ 3 ?hg (N := 10) ?hd (xs := ([] : List Int)) (inner := []) (ok := fun _ => True) (okp := fun _ => True) ?hr ?hp (fun _ hk => hk) trivial (zV _ _) (zT _) (by simp) ?_; (case hd => rfl); (case hg => rfl); (case hr => first | (go_simp; done) | (go_simp; rfl)); (case hp => exact (Reps.none _ _)); intro v982 w3 ho4 hb hg_ hnew_; clear hg_ hnew_; (first | rw [← Ny981.out] at ho4 | (simp only [Int.reduceToNat] at ho4; rw [← Ny981.out] at ho4)); have HO983 := yA (Kd.R_lower (Kd.R_newM (M := fun k_ => (w.heap.size ≤ k_)) ho4 (yX (mB HB.out)) (fun k_ h_ => h_)) (yX (mB HB.out))); replace HB := yA (zD (mB HB.out) hb); clear hb ho4; obtain ⟨Ao5, co5, eo5⟩ := Kd.R_slice HO983.out; subst eo5) | ((with_reducible refine gate_dst (N := 11) rfl ?_); refine Kd.N_lit (Kd.slice 3 (Kd.int .i64)) _ 23 ?hg (N' := 11) ?hd (xs := ([y981] : List (List Int))) (inner := [.slice Ao5 y981.length co5]) (ok := (fun k_ => (w.heap.size ≤ k_))) (okp := (fun k_ => (w.heap.size ≤ k_))) ?hr ?hp (fun _ hk => hk) ((show ∀ k_, w3.heap.size ≤ k_ → (fun k_ => (w.heap.size ≤ k_)) k_ from fun k_ hk => (Nat.le_trans (yX (mB HB.out)) hk)) _ (zT _)) (zV _ _) (zT _) (by simp) ?_; (case hd => rfl); (case hg => rfl); (case hr => first | (go_simp; done) | (go_simp; rfl)); (case hp => exact (Reps.one (show Kd.FK (Kd.slice 3 (Kd.int .i64)) _ _ y981 [.slice Ao5 y981.length co5] from (Kd.FK_slice_mk (zN (zP (ok' := (fun k_ => (w.heap.size ≤ k_))) (HO983.out) (fun k_ hk => hk.1))).2.1 (Kd.R_F (zP (ok' := (fun k_ => (w.heap.size ≤ k_))) (HO983.out) (fun k_ hk => hk.1))))) (Reps.none _ _))); intro v985 w6 ho7 hb hg_ hnew_; clear hg_ hnew_; (first | rw [← Ny984.out] at ho7 | (simp only [Int.reduceToNat] at ho7; rw [← Ny984.out] at ho7)); have HO986 := yA (Kd.N_lower ho7 (yX (mB HB.out))); replace HB := yA (zD (mB HB.out) hb); clear HO983; clear hb ho7))
 go_loopg [5, 13] k (fun kq v5 v13 w' => ∃ (x5_1 : List (List Int)) (x13_1 : Int), v13 = .int .i64 x13_1 ∧ Aside0 (impl_allWords.l0 kq a0 x5_1 a1 x13_1 = some r) ∧ Aside0 (kq ≤ k) ∧ Aside0 (Kd.N (Kd.slice 3 (Kd.int .i64)) 23 w' w.heap.size (fun k_ => (w.heap.size ≤ k_)) v5 x5_1) ∧ Aside0 (Below w.heap.size w w'))
 case atStart => exact ⟨(y984), (0), (by first | rfl | (simp; done) | (simp [*]; done)), H', ⟨zT _⟩, ⟨by (with_reducible repeat (first | apply Kd.N_alloc | apply Kd.N_drewN | apply Kd.N_drew)); exact HO986.out⟩, ⟨mB HB.out⟩⟩
 case round =>
  clear H'
  (try clear p2);(try clear c6)
  obtain ⟨x5_1, x13_1, rfl, HA, HK1, HO_5, HB⟩ := hrel
  cases gk with
  | zero => exact absurd HA.out (by simp [impl_allWords.l0])
  | succ k1 =>
   have H := HA.out
   clear HA
   simp only [impl_allWords.l0] at H
   by_cases c8 : x13_1 < a1
   ·rw [if_pos c8] at H
    have c8b0 : decide (x13_1 < a1) = true := zH c8
    clear c8
    (first | ((with_reducible replace H := bS H); obtain ⟨y987, Ny987, H⟩ := H) | (obtain ⟨y987, Ny987⟩ : ∃ y_ : List (List Int), y_ = (([] : List (List Int))) := ⟨_, rfl⟩; rw [← Ny987] at H; replace Ny987 := yA Ny987))
    have H' := yA H
    clear H
    go_wp2_with (first | ((with_reducible refine gate_dst (N := 15) rfl ?_); refine Kd.N_lit (Kd.slice 3 (Kd.int .i64)) _ 23 ?hg (N' := 15) ?hd (xs := ([] : List (List Int))) (inner := []) (ok := (fun k_ => (w.heap.size ≤ k_) ∧ some k_ ≠ (u5 : Value).ownBlock)) (okp := (fun k_ => (w.heap.size ≤ k_) ∧ some k_ ≠ (u5 : Value).ownBlock)) ?hr ?hp (fun _ hk => hk) ((show ∀ k_, wr.heap.size ≤ k_ → (fun k_ => (w.heap.size ≤ k_) ∧ some k_ ≠ (u5 : Value).ownBlock) k_ from fun k_ hk => ⟨(Nat.le_trans (yX (mB HB.out)) hk), Kd.fresh' (Kd.N_lt (by (with_reducible repeat (first | apply Kd.N_alloc | apply Kd.N_drewN | apply Kd.N_drew)); exact HO_5.out)) k_ hk⟩) _ (zT _)) (zV _ _) (zT _) (by simp) ?_; (case hd => rfl); (case hg => rfl); (case hr => first | (go_simp; done) | (go_simp; rfl)); (case hp => exact (Reps.none _ _)); intro v988 w9 ho10 hb hg_ hnew_; clear hg_ hnew_; (first | rw [← Ny987.out] at ho10 | (simp only [Int.reduceToNat] at ho10; rw [← Ny987.out] at ho10)); replace HO_5 := yA (Kd.N_elder' (by (with_reducible repeat (first | apply Kd.N_alloc | apply Kd.N_drewN | apply Kd.N_drew)); exact HO_5.out) (Kd.N_base ho10) hb); have HO989 := yA (Kd.N_lower ho10 (yX (mB HB.out))); replace HB := yA (zD (mB HB.out) hb); clear hb ho10; obtain ⟨Ao11, co11, eo11⟩ := Kd.N_slice HO_5.out; subst eo11))
    go_loopg [6, 18] k1 (fun kq v6 v18 w' => ∃ (x6_2 : List (List Int)) (x18_2 : Int), v18 = .int .i64 x18_2 ∧ Aside0 (impl_allWords.l1 kq a0 x6_2 a1 x13_1 x5_1 (x5_1.length : Int) x18_2 = some r) ∧ Aside0 (kq ≤ k1) ∧ Aside0 (Kd.N (Kd.slice 3 (Kd.int .i64)) 23 w' w.heap.size (fun k_ => (w.heap.size ≤ k_) ∧ some k_ ≠ ((.slice Ao11 x5_1.length co11) : Value).ownBlock) v6 x6_2) ∧ Aside0 (Kd.N (Kd.slice 3 (Kd.int .i64)) 23 w' w.heap.size (fun k_ => (w.heap.size ≤ k_) ∧ some k_ ≠ (v6 : Value).ownBlock) (.slice Ao11 x5_1.length co11) x5_1) ∧ Aside0 (Below w.heap.size w w'))
    case atStart => exact ⟨(y987), (0), (by first | rfl | (simp; done) | (simp [*]; done)), H', ⟨zT _⟩, ⟨by (with_reducible repeat (first | apply Kd.N_alloc | apply Kd.N_drewN | apply Kd.N_drew)); exact HO989.out⟩, ⟨by (with_reducible repeat (first | apply Kd.N_alloc | apply Kd.N_drewN | apply Kd.N_drew)); exact HO_5.out⟩, ⟨mB HB.out⟩⟩
    case round =>
     clear H'
     (try clear p2);(try clear c6);(try clear c8);(try clear c8b0);(try clear p2)
     obtain ⟨x6_2, x18_2, rfl, HA, HK2, HO_6, HO_16, HB⟩ := hrel
     cases gk with
     | zero => exact absurd HA.out (by simp [impl_allWords.l1])
     | succ k2 =>
      have H := HA.out
      clear HA
      simp only [impl_allWords.l1] at H
      by_cases c12 : x18_2 < (x5_1.length : Int)
      ·rw [if_pos c12] at H
       have c12b0 : decide (x18_2 < (x5_1.length : Int)) = true := zH c12
       clear c12
       obtain ⟨c13, H⟩ := iP H
       have c13b0 : decide (0 ≤ x18_2) = true := zH c13
       clear c13
       obtain ⟨c14, H⟩ := iP H
       have c14b0 : decide (x18_2 < (x5_1.length : Int)) = true := zH c14
       clear c14
       have H' := yA H
       clear H
       have p990 : 0 ≤ (x18_2 : Int) := zG (by assumption)
       have q990 : x18_2 < (x5_1.length : Int) := zG (by assumption)
       obtain ⟨ad990, A990_0, c990_0, e990, hx990_0, hl990_0, hi990_0⟩ := at_L1 (Kd.N_reads' HO_16.out).2.2 x18_2 p990 q990
       cases e990
       obtain ⟨ce990, hce990, hMe990, hcc990⟩ := Kd.N_get HO_16.out [] x18_2 p990 (by first | exact q990 | exact zG (by assumption) | (have e_ := (Kd.N_reads' HO_16.out).1; omega))
       obtain ⟨ua990_0, uc990_0, rfl, ul990_0, ge990_0⟩ := Kd.FK_slice_open hMe990
       have hv990_0 := hcc990 0 _ rfl
       rw [Nat.add_zero, show ((Kd.slice 3 (Kd.int .i64))).sz = 1 from rfl, Nat.mul_one] at hv990_0
       replace hv990_0 := zU (hv990_0.symm.trans hx990_0)
       injection hv990_0 with hva_ hvn_ hvc_
       rw [hva_] at ge990_0
       rw [hvc_] at ul990_0
       have HL990_0 := yA (show Kd.V (Kd.int .i64) 3 _ w.heap.size _ _ (rd_L1 x5_1 x18_2) from Kd.V_mk ul990_0 ge990_0)
       clear hva_ hvn_ hvc_ ge990_0 ul990_0 hcc990 hce990
       have HR990_0 := yA hi990_0
       have HC990_0 := yA hl990_0
       clear hi990_0 hl990_0
       replace p990 := eq_true p990
       replace q990 := eq_true q990
       go_wp2
       go_loopg [6, 23] k2 (fun kq v6 v23 w' => ∃ (x6_3 : List (List Int)) (x23_3 : Int), v23 = .int .i64 x23_3 ∧ Aside0 (impl_allWords.l2 kq a0 x6_3 (rd_L1 x5_1 x18_2) a1 x13_1 x5_1 (x5_1.length : Int) x18_2 a0 x23_3 = some r) ∧ Aside0 (kq ≤ k2) ∧ Aside0 (Kd.N (Kd.slice 3 (Kd.int .i64)) 23 w' w.heap.size (fun k_ => (w.heap.size ≤ k_) ∧ some k_ ≠ ((.slice (some ad990) x5_1.length co11) : Value).ownBlock) v6 x6_3) ∧ Aside0 (Kd.N (Kd.slice 3 (Kd.int .i64)) 23 w' w.heap.size (fun k_ => (w.heap.size ≤ k_) ∧ some k_ ≠ (v6 : Value).ownBlock) (.slice (some ad990) x5_1.length co11) x5_1) ∧ Aside0 (Kd.V (Kd.int .i64) 3 w' w.heap.size (fun k_ => (w.heap.size ≤ k_ ∧ some k_ ≠ (.slice (some ad990) x5_1.length co11 : Value).ownBlock) ∧ some k_ ≠ (v6 : Value).ownBlock) (.slice A990_0 (rd_L1 x5_1 x18_2).length c990_0) (rd_L1 x5_1 x18_2)) ∧ Aside0 (Below w.heap.size w w'))
       case atStart => exact ⟨(x6_2), (0), (by first | rfl | (simp; done) | (simp [*]; done)), H', ⟨zT _⟩, ⟨by (with_reducible repeat (first | apply Kd.N_alloc | apply Kd.N_drewN | apply Kd.N_drew)); exact HO_6.out⟩, ⟨by (with_reducible repeat (first | apply Kd.N_alloc | apply Kd.N_drewN | apply Kd.N_drew)); exact HO_16.out⟩, ⟨by (with_reducible repeat (first | apply Kd.V_alloc | apply Kd.V_drewN | apply Kd.V_drew)); exact Kd.V_mono HL990_0.out (fun _ hk => ⟨⟨hk.1.1, hk.2⟩, hk.1.2⟩)⟩, ⟨mB HB.out⟩⟩
       case round =>
        clear H'
        (try clear c1);(try clear p2);(try clear c6);(try clear c8);(try clear c8b0);(try clear c9);(try clear p9);(try clear q9);(try clear hx9);(try clear c12);(try clear c12b0);(try clear c13);(try clear c13b0);(try clear c14);(try clear c14b0);(try clear hx990_0);(try clear p2);(try clear p990);(try clear q990);(try clear HL990_0)
        obtain ⟨x6_3, x23_3, rfl, HA, HK3, HO_6, HO_16, HLrow, HB⟩ := hrel
        cases gk with
        | zero => exact absurd HA.out (by simp [impl_allWords.l2])
        | succ k3 =>
         have H := HA.out
         clear HA
         simp only [impl_allWords.l2] at H
         by_cases c15 : x23_3 < a0
         ·rw [if_pos c15] at H
          have c15b0 : decide (x23_3 < a0) = true := zH c15
          clear c15
          (first | ((with_reducible replace H := bS H); obtain ⟨y991, Ny991, H⟩ := H) | (obtain ⟨y991, Ny991⟩ : ∃ y_ : List Int, y_ = (([] : List Int)) := ⟨_, rfl⟩; rw [← Ny991] at H; replace Ny991 := yA Ny991))
          obtain ⟨c16, H⟩ := iP H
          have LMc16 := yA c16
          clear c16
          (first | ((with_reducible replace H := bS H); obtain ⟨y994, Ny994, H⟩ := H) | (obtain ⟨y994, Ny994⟩ : ∃ y_ : List Int, y_ = (y991 ++ (rd_L1 x5_1 x18_2)) := ⟨_, rfl⟩; rw [← Ny994] at H; replace Ny994 := yA Ny994))
          obtain ⟨c17, H⟩ := iP H
          have LMc17 := yA c17
          clear c17
          (first | ((with_reducible replace H := bS H); obtain ⟨y997, Ny997, H⟩ := H) | (obtain ⟨y997, Ny997⟩ : ∃ y_ : List Int, y_ = (y994 ++ [x23_3]) := ⟨_, rfl⟩; rw [← Ny997] at H; replace Ny997 := yA Ny997))
          obtain ⟨c18, H⟩ := iP H
          have LMc18 := yA c18
          clear c18
          (first | ((with_reducible replace H := bS H); obtain ⟨y1000, Ny1000, H⟩ := H) | (obtain ⟨y1000, Ny1000⟩ : ∃ y_ : List (List Int), y_ = (x6_3 ++ [y997]) := ⟨_, rfl⟩; rw [← Ny1000] at H; replace Ny1000 := yA Ny1000))
          have H' := yA H
          clear H
          go_wp2_with (first | ((with_reducible refine gate_dst (N := 27) rfl ?_); refine Kd.R_lit (Kd.int .i64) _ 3 ?hg (N := 27) ?hd (xs := ([] : List Int)) (inner := []) (ok := fun _ => True) (okp := fun _ => True) ?hr ?hp (fun _ hk => hk) trivial (zV _ _) (zT _) (by simp) ?_; (case hd => rfl); (case hg => rfl); (case hr => first | (go_simp; done) | (go_simp; rfl)); (case hp => exact (Reps.none _ _)); intro v992 w19 ho20 hb hg_ hnew_; clear hg_ hnew_; (first | rw [← Ny991.out] at ho20 | (simp only [Int.reduceToNat] at ho20; rw [← Ny991.out] at ho20)); have nL_ := yA (Kd.V_elder' (by (with_reducible repeat (first | apply Kd.V_alloc | apply Kd.V_drewN | apply Kd.V_drew)); exact HLrow.out) (yY ho20) hb); clear HLrow; replace HO_6 := yA (Kd.N_elder' (by (with_reducible repeat (first | apply Kd.N_alloc | apply Kd.N_drewN | apply Kd.N_drew)); exact HO_6.out) (yY ho20) hb); replace HO_16 := yA (Kd.N_elder' (by (with_reducible repeat (first | apply Kd.N_alloc | apply Kd.N_drewN | apply Kd.N_drew)); exact HO_16.out) (yY ho20) hb); have HO993 := yA (Kd.R_lower (Kd.R_newM (M := fun k_ => (w.heap.size ≤ k_)) ho20 (yX (mB HB.out)) (fun k_ h_ => h_)) (yX (mB HB.out))); replace HB := yA (zD (mB HB.out) hb); have HLrow := nL_; clear nL_; clear hb ho20) | ((with_reducible refine gate_builtin (b := .append) (xs := #[.tmp 27, .tmp 28]) rfl ?_); at_builtin; refine Kd.R_append_rows (Kd.int .i64) (w0 := w) w.heap.size rfl (.tmp 27) (.tmp 28) 23 3 (.int .i64 0) 8 rfl Try.underlying23 info3 rfl (by decide) (by omega) v992 y991 (rd_L1 x5_1 x18_2) _ _ _ (fun k_ => (w.heap.size ≤ k_)) (fun _ => False) rfl rfl ?aO ?aR (fun _ _ h => h) (fun _ h => h.elim) ?aF ?aB ?aS ?aL ?_; (case aR => (obtain ⟨A_, c_, e_, _, f_⟩ := HLrow.out; injection e_ with e1_ e2_ e3_; subst e1_; first | exact (Foot.now f_) | exact yE ((Foot.now f_)) _ | exact yF ((Foot.now f_)) _ | exact yG ((Foot.now f_)))); (case aB => exact (mB HB.out)); (case aF => exact (fun k_ hk => (Nat.le_trans (yX (mB HB.out)) hk))); (case aO => exact (mR (zP HO993.out (fun _ hk => hk.1)))); (case aS => exact (yX (mB HB.out))); (case aL => have := LMc16.out; omega); intro v995 w21 ho hb hg hat; rw [← Ny994.out] at ho; have nL_ := yA (Kd.V_afterv (by (with_reducible repeat (first | apply Kd.V_alloc | apply Kd.V_drewN | apply Kd.V_drew)); exact HLrow.out) hg hat); clear HLrow; replace HO_6 := yA (Kd.N_afterv (ok := (fun k_ => (w.heap.size ≤ k_) ∧ some k_ ≠ (.slice (some ad990) x5_1.length co11 : Value).ownBlock)) (by (with_reducible repeat (first | apply Kd.N_alloc | apply Kd.N_drewN | apply Kd.N_drew)); exact HO_6.out) hg hat); replace HO_16 := yA (Kd.N_afterv (ok := (fun k_ => (w.heap.size ≤ k_) ∧ some k_ ≠ (u6 : Value).ownBlock)) (by (with_reducible repeat (first | apply Kd.N_alloc | apply Kd.N_drewN | apply Kd.N_drew)); exact HO_16.out) hg hat); replace HB := yA (hb); have HO996 := yA (ho); clear HO993; have HLrow := nL_; clear nL_; clear ho hb hg hat) | ((with_reducible refine gate_builtin (b := .append) (xs := #[.tmp 29, .tmp 31]) rfl ?_); at_builtin; refine Kd.R_append (Kd.int .i64) (w0 := w) w.heap.size rfl (.tmp 29) (.tmp 31) 23 3 (.int .i64 0) 8 rfl Try.underlying23 info3 rfl (by decide) (by omega) v995 y994 x23_3 [.int .i64 x23_3] (fun k_ => (w.heap.size ≤ k_)) (fun _ => False) rfl rfl ?aP (fun _ hk => hk.elim) ?aF ?aO ?aB ?aS ?aL ?_; (case aP => exact rfl); (case aB => exact (mB HB.out)); (case aF => exact (fun k_ hk => (Nat.le_trans (yX (mB HB.out)) hk))); (case aO => exact (mR HO996.out)); (case aS => exact (yX (mB HB.out))); (case aL => have := LMc17.out; omega); intro v998 w22 ho hb hg hat; rw [← Ny997.out] at ho; have nL_ := yA (Kd.V_afterv (by (with_reducible repeat (first | apply Kd.V_alloc | apply Kd.V_drewN | apply Kd.V_drew)); exact HLrow.out) hg hat); clear HLrow; replace HO_6 := yA (Kd.N_afterv (ok := (fun k_ => (w.heap.size ≤ k_) ∧ some k_ ≠ (.slice (some ad990) x5_1.length co11 : Value).ownBlock)) (by (with_reducible repeat (first | apply Kd.N_alloc | apply Kd.N_drewN | apply Kd.N_drew)); exact HO_6.out) hg hat); replace HO_16 := yA (Kd.N_afterv (ok := (fun k_ => (w.heap.size ≤ k_) ∧ some k_ ≠ (u6 : Value).ownBlock)) (by (with_reducible repeat (first | apply Kd.N_alloc | apply Kd.N_drewN | apply Kd.N_drew)); exact HO_16.out) hg hat); replace HB := yA (hb); have HO999 := yA (ho); clear HO996; have HLrow := nL_; clear nL_; clear ho hb hg hat; obtain ⟨Ao24, co24, eo24⟩ := Kd.R_slice HO999.out; subst eo24) | ((with_reducible refine gate_builtin (b := .append) (xs := #[.tmp 26, .tmp 33]) rfl ?_); at_builtin; refine Kd.N_append (Kd.slice 3 (Kd.int .i64)) (w0 := w) w.heap.size rfl (.tmp 26) (.tmp 33) 22 23 (.slice none 0 0) 24 rfl Try.underlying22 info23 rfl (by decide) (by omega) u6 x6_3 y997 [.slice Ao24 y997.length co24] (fun k_ => (w.heap.size ≤ k_) ∧ some k_ ≠ (.slice (some ad990) x5_1.length co11 : Value).ownBlock) (fun k_ => ((fun k_ => (w.heap.size ≤ k_) ∧ some k_ ≠ (.slice (some ad990) x5_1.length co11 : Value).ownBlock)) k_ ∧ some k_ ≠ (u6 : Value).ownBlock) rfl rfl ?aP (fun _ hk => hk) ?aF ?aO ?aB ?aS ?aL ?_; (case aP => exact (Kd.FK_slice_mk (zN (zP (ok' := (fun k_ => ((fun k_ => (w.heap.size ≤ k_) ∧ some k_ ≠ (.slice (some ad990) x5_1.length co11 : Value).ownBlock)) k_ ∧ some k_ ≠ (u6 : Value).ownBlock)) (Kd.R_apart' (Kd.R_apart' (HO999.out) (Kd.N_typed HO_16.out) (by decide)) (Kd.N_typed HO_6.out) (by decide)) (fun k_ hk => ⟨⟨hk.1.1, hk.1.2⟩, hk.2⟩))).2.1 (Kd.R_F (zP (ok' := (fun k_ => ((fun k_ => (w.heap.size ≤ k_) ∧ some k_ ≠ (.slice (some ad990) x5_1.length co11 : Value).ownBlock)) k_ ∧ some k_ ≠ (u6 : Value).ownBlock)) (Kd.R_apart' (Kd.R_apart' (HO999.out) (Kd.N_typed HO_16.out) (by decide)) (Kd.N_typed HO_6.out) (by decide)) (fun k_ hk => ⟨⟨hk.1.1, hk.1.2⟩, hk.2⟩))))); (case aB => exact (mB HB.out)); (case aF => exact (fun k_ hk => ⟨(Nat.le_trans (yX (mB HB.out)) hk), Kd.fresh' (Kd.N_lt (by (with_reducible repeat (first | apply Kd.N_alloc | apply Kd.N_drewN | apply Kd.N_drew)); exact HO_16.out)) k_ hk⟩)); (case aO => exact (by (with_reducible repeat (first | apply Kd.N_alloc | apply Kd.N_drewN | apply Kd.N_drew)); exact Kd.N_mono HO_6.out (fun _ hk => ⟨hk.1.1, hk.1.2⟩))); (case aS => exact (yX (mB HB.out))); (case aL => have := LMc18.out; omega); intro v1001 w23 ho hb hg hat; rw [← Ny1000.out] at ho; have nM_ := yA (Kd.V_mono HLrow.out (fun _ hk => hk.1)); have nL_ := yA (Kd.V_afterv (by (with_reducible repeat (first | apply Kd.V_alloc | apply Kd.V_drewN | apply Kd.V_drew)); exact nM_.out) hg hat); clear HLrow nM_; replace HO_16 := yA (Kd.N_afterv (ok := (fun k_ => (w.heap.size ≤ k_) ∧ some k_ ≠ (.slice Ao24 y997.length co24 : Value).ownBlock)) (by (with_reducible repeat (first | apply Kd.N_alloc | apply Kd.N_drewN | apply Kd.N_drew)); exact Kd.N_mono HO_16.out (fun _ hk => ⟨⟨hk.1.1, hk.2⟩, hk.1.2⟩)) hg hat); replace HB := yA (hb); have HO1002 := yA (ho); clear HO_6 HO999; have HLrow := nL_; clear nL_; clear ho hb hg hat))
          go_roundg k3
          case measure => have := HK1.out; have := HK2.out; have := HK3.out; omega
          case rel => exact ⟨(y1000), (wrap64 (x23_3 + 1)), (by first | rfl | (simp; done) | (simp [*]; done)), H', ⟨by have := HK1.out; have := HK2.out; have := HK3.out; omega⟩, ⟨by (with_reducible repeat (first | apply Kd.N_alloc | apply Kd.N_drewN | apply Kd.N_drew)); exact HO1002.out⟩, ⟨by (with_reducible repeat (first | apply Kd.N_alloc | apply Kd.N_drewN | apply Kd.N_drew)); exact Kd.N_mono HO_16.out (fun _ hk => ⟨hk.1.1, hk.2⟩)⟩, ⟨by (with_reducible repeat (first | apply Kd.V_alloc | apply Kd.V_drewN | apply Kd.V_drew)); exact HLrow.out⟩, ⟨mB HB.out⟩⟩
         ·rw [if_neg c15] at H
          have c15b0 : decide (x23_3 < a0) = false := decide_eq_false c15
          clear c15
          have H' := yA H
          clear H
          go_wp2
          go_roundg k3
          case measure => have := HK1.out; have := HK2.out; have := HK3.out; omega
          case rel => exact ⟨(x6_3), (wrap64 (x18_2 + 1)), (by first | rfl | (simp; done) | (simp [*]; done)), H', ⟨by have := HK1.out; have := HK2.out; have := HK3.out; omega⟩, ⟨by (with_reducible repeat (first | apply Kd.N_alloc | apply Kd.N_drewN | apply Kd.N_drew)); exact HO_6.out⟩, ⟨by (with_reducible repeat (first | apply Kd.N_alloc | apply Kd.N_drewN | apply Kd.N_drew)); exact HO_16.out⟩, ⟨mB HB.out⟩⟩
      ·rw [if_neg c12] at H
       have c12b0 : decide (x18_2 < (x5_1.length : Int)) = false := decide_eq_false c12
       clear c12
       have H' := yA H
       clear H
       go_wp2
       go_roundg k2
       case measure => have := HK1.out; have := HK2.out; omega
       case rel => exact ⟨(x6_2), (wrap64 (x13_1 + 1)), (by first | rfl | (simp; done) | (simp [*]; done)), H', ⟨by have := HK1.out; have := HK2.out; omega⟩, ⟨by (with_reducible repeat (first | apply Kd.N_alloc | apply Kd.N_drewN | apply Kd.N_drew)); exact Kd.N_mono HO_6.out (fun _ hk => hk.1)⟩, ⟨mB HB.out⟩⟩
   ·rw [if_neg c8] at H
    have c8b0 : decide (x13_1 < a1) = false := decide_eq_false c8
    clear c8
    obtain rfl := zU H
    go_wp2
    go_ret
    exact ⟨_, by first | rfl | (simp [errW_none, errW_some] <;> rfl) | (simp [*, errW_none, errW_some] <;> rfl), by (with_reducible repeat (first | apply Kd.N_alloc | apply Kd.N_drewN | apply Kd.N_drew)); exact HO_5.out, by repeat (first | (with_reducible first | exact HB.out | apply yO | apply yN | apply yP) | exact HB.out)⟩

end Go.Proofs.Ytmkeicahnnlalaa.Q
