-- written by a program of this session
-- squeezed
-- compact
-- shrunk
import Derived.Test.YtgopcliohchkmaaQ0
namespace Go.Proofs.Ytgopcliohchkmaa.Q
open Go.RowKit Go.Proofs.YtgopcliohchkmaaW.PrintWords Go.Proofs.YtgopcliohchkmaaW.PrintLast Go.Proofs.YtgopcliohchkmaaW.PrintMore
set_option linter.unusedVariables false
set_option linter.unusedSimpArgs false

/-! ### impl_allWords: function 81 -/
mutual
def impl_allWords.l0 : Nat → Int → List (List Int) → Int → Int → Option ((List (List Int)))
 | 0, _, _, _, _ => none
 | k + 1, x0, x5, x12, x13 => if x13 < x12 then (impl_allWords.l1 k x0 (([] : List (List Int))) x12 x13 x5 (x5.length : Int) 0) else (some x5)
def impl_allWords.l1 : Nat → Int → List (List Int) → Int → Int → List (List Int) → Int → Int → Option ((List (List Int)))
 | 0, _, _, _, _, _, _, _ => none
 | k + 1, x0, x6, x12, x13, x16, x17, x18 => if x18 < x17 then (if 0 ≤ x18 then (if x18 < (x16.length : Int) then (impl_allWords.l2 k x0 x6 (rd_L1 x16 x18) x12 x13 x16 x17 x18 x0 0) else (none)) else (none)) else (impl_allWords.l0 k x0 x6 x12 (wrap64 (x13 + 1)))
def impl_allWords.l2 : Nat → Int → List (List Int) → List Int → Int → Int → List (List Int) → Int → Int → Int → Int → Option ((List (List Int)))
 | 0, _, _, _, _, _, _, _, _, _, _ => none
 | k + 1, x0, x6, x8, x12, x13, x16, x17, x18, x22, x23 => if x23 < x22 then ((some (([] : List Int) : List Int)).bind fun y784 => (if y784.length + x8.length < 17592186044416 then ((some (y784 ++ x8 : List Int)).bind fun y787 => (if y787.length < 17592186044416 then (if x6.length < 5864062014805 then (impl_allWords.l2 k x0 (x6 ++ [(y787 ++ [x23])]) x8 x12 x13 x16 x17 x18 x22 (wrap64 (x23 + 1))) else (none)) else (none))) else (none))) else (impl_allWords.l1 k x0 x6 x12 x13 x16 x17 (wrap64 (x18 + 1)))
end
def impl_allWords.f (k : Nat) (a0 : Int) (a1 : Int) : Option ((List (List Int))) := impl_allWords.l0 k a0 (([(([] : List Int))] : List (List Int))) a1 0
theorem impl_allWords.mono_l : ∀ k, (∀ y0 y1 y2 y3, LeO (impl_allWords.l0 k y0 y1 y2 y3) (impl_allWords.l0 (k + 1) y0 y1 y2 y3)) ∧ (∀ y0 y1 y2 y3 y4 y5 y6, LeO (impl_allWords.l1 k y0 y1 y2 y3 y4 y5 y6) (impl_allWords.l1 (k + 1) y0 y1 y2 y3 y4 y5 y6)) ∧ (∀ y0 y1 y2 y3 y4 y5 y6 y7 y8 y9, LeO (impl_allWords.l2 k y0 y1 y2 y3 y4 y5 y6 y7 y8 y9) (impl_allWords.l2 (k + 1) y0 y1 y2 y3 y4 y5 y6 y7 y8 y9))
 | 0 => ⟨fun _ _ _ _ r h => by simp [impl_allWords.l0] at h, fun _ _ _ _ _ _ _ r h => by simp [impl_allWords.l1] at h, fun _ _ _ _ _ _ _ _ _ _ r h => by simp [impl_allWords.l2] at h⟩
 | k + 1 => by
  obtain ⟨ih0, ih1, ih2⟩ := impl_allWords.mono_l k
  refine ⟨?_, ?_, ?_⟩ <;> intros <;> first | unfold impl_allWords.l0 | unfold impl_allWords.l1 | unfold impl_allWords.l2
  all_goals repeat' (with_reducible first | exact ih0 _ _ _ _ | exact ih1 _ _ _ _ _ _ _ | exact ih2 _ _ _ _ _ _ _ _ _ _ | exact LeO.refl _ | exact LeO.none _ | refine LeO.ite ?_ ?_ | refine LeO.bind ?_ fun _ => ?_)
theorem impl_allWords.mono : ∀ a0 a1 k, LeO (impl_allWords.f k a0 a1) (impl_allWords.f (k + 1) a0 a1) := by
 intro a0 a1 k
 obtain ⟨ih0, ih1, ih2⟩ := impl_allWords.mono_l k
 unfold impl_allWords.f
 repeat' (with_reducible first | exact ih0 _ _ _ _ | exact ih1 _ _ _ _ _ _ _ | exact ih2 _ _ _ _ _ _ _ _ _ _ | exact LeO.refl _ | exact LeO.none _ | refine LeO.ite ?_ ?_ | refine LeO.bind ?_ fun _ => ?_)
set_option maxHeartbeats 8000000 in
set_option maxRecDepth 100000 in
theorem impl_allWords.calls (k : Nat) (a0 : Int) (a1 : Int) (r : List (List Int)) (w : World) (h : impl_allWords.f k a0 a1 = some r) :
  Calls Try.prog 81 #[.int .i64 a0, .int .i64 a1] w fun e w' => ∃ v0_ : Value, e = .returned (v0_) ∧ Kd.S (Kd.slice 3 (Kd.int .i64)) 38 w' w.heap.size (fun k_ => (w.heap.size ≤ k_)) v0_ r ∧ Below w.heap.size w w' := by
 have HB := yA (zV w.heap.size w)
 have H : (impl_allWords.l0 k a0 (([(([] : List Int))] : List (List Int))) a1 0) = some r := h
 clear h
 (first | ((with_reducible replace H := bS H); obtain ⟨y774, Ny774, H⟩ := H) | (obtain ⟨y774, Ny774⟩ : ∃ y_ : List Int, y_ = (([] : List Int)) := ⟨_, rfl⟩; rw [← Ny774] at H; replace Ny774 := yA Ny774))
 (first | ((with_reducible replace H := bS H); obtain ⟨y777, Ny777, H⟩ := H) | (obtain ⟨y777, Ny777⟩ : ∃ y_ : List (List Int), y_ = (([y774] : List (List Int))) := ⟨_, rfl⟩; rw [← Ny777] at H; replace Ny777 := yA Ny777))
 have H' := yA H
 clear H
 go_enter Try.func81, Try.ntmps81
 go_wp2_with (first | ((with_reducible refine gate_dst (N := 10) rfl ?_); refine Kd.R_lit (Kd.int .i64) _ 3 ?hg (N := 10) ?hd (xs := ([] : List Int)) (inner := []) (ok := fun _ => True) (okp := fun _ => True) ?hr ?hp (fun _ hk => hk) trivial (zV _ _) (zT _) (by simp) ?_; (case hd => rfl); (case hg => rfl); (case hr => first | (go_simp; done) | (go_simp; rfl)); (case hp => exact (Reps.none _ _)); intro v775 w3 ho4 hb hg_ hnew_; clear hg_ hnew_; (first | rw [← Ny774.out] at ho4 | (simp only [Int.reduceToNat] at ho4; rw [← Ny774.out] at ho4)); have HO776 := yA (Kd.R_lower (Kd.R_newM (M := fun k_ => (w.heap.size ≤ k_)) ho4 (yX (mB HB.out)) (fun k_ h_ => h_)) (yX (mB HB.out))); replace HB := yA (zD (mB HB.out) hb); clear hb ho4; obtain ⟨Ao5, co5, eo5⟩ := Kd.R_slice HO776.out; subst eo5) | ((with_reducible refine gate_dst (N := 11) rfl ?_); refine Kd.R_lit (Kd.tag (fun _ => 0) (Kd.slice 3 (Kd.int .i64))) _ 38 ?hg (N := 11) ?hd (xs := ([(y774, 0)] : List (List Int × Nat))) (inner := [.slice Ao5 y774.length co5]) (ok := (fun k_ => (w.heap.size ≤ k_))) (okp := (fun k_ => (w.heap.size ≤ k_))) ?hr ?hp (fun _ hk => hk) ((show ∀ k_, w3.heap.size ≤ k_ → (fun k_ => (w.heap.size ≤ k_)) k_ from fun k_ hk => (Nat.le_trans (yX (mB HB.out)) hk)) _ (zT _)) (mB HB.out) (yX (mB HB.out)) (by simp) ?_; (case hd => rfl); (case hg => rfl); (case hr => first | (go_simp; done) | (go_simp; rfl)); (case hp => exact (Reps.one (show (Kd.tag (fun _ => 0) (Kd.slice 3 (Kd.int .i64))).M _ _ _ (y774, 0) [.slice Ao5 y774.length co5] from Kd.M_row (zP HO776.out (fun k_ hk => ⟨hk.1, rfl⟩))) (Reps.none _ _))); intro v778 w6 ho7 hb hg_ hnew_; clear hg_ hnew_; have hs7 : Kd.S (Kd.slice 3 (Kd.int .i64)) 38 w6 _ (fun k_ => (w.heap.size ≤ k_)) v778 y777 := (by rw [Ny777.out]; exact ⟨fun _ => 0, ho7⟩); clear ho7; have HO779 := yA hs7; replace HB := yA hb; clear HO776; clear hb hs7))
 go_loopg [5, 13] k (fun kq v5 v13 w' => ∃ (x5_1 : List (List Int)) (x13_1 : Int), v13 = .int .i64 x13_1 ∧ Aside0 (impl_allWords.l0 kq a0 x5_1 a1 x13_1 = some r) ∧ Aside0 (kq ≤ k) ∧ Aside0 (Kd.S (Kd.slice 3 (Kd.int .i64)) 38 w' w.heap.size (fun k_ => (w.heap.size ≤ k_)) v5 x5_1) ∧ Aside0 (Below w.heap.size w w'))
 case atStart => exact ⟨(y777), (0), (by first | rfl | (simp; done) | (simp [*]; done)), H', ⟨zT _⟩, ⟨mS HO779.out⟩, ⟨mB HB.out⟩⟩
 case round =>
  clear H'
  try clear p2
  obtain ⟨x5_1, x13_1, rfl, HA, HK1, HO_5, HB⟩ := hrel
  cases gk with
  | zero => exact absurd HA.out (by simp [impl_allWords.l0])
  | succ k1 =>
   have H := HA.out
   clear HA
   simp only [impl_allWords.l0] at H
   by_cases c8 : x13_1 < a1
   ·rw [if_pos c8] at H
    have c8b0 : decide (x13_1 < a1) = true := zH c8
    clear c8
    (first | ((with_reducible replace H := bS H); obtain ⟨y780, Ny780, H⟩ := H) | (obtain ⟨y780, Ny780⟩ : ∃ y_ : List (List Int), y_ = (([] : List (List Int))) := ⟨_, rfl⟩; rw [← Ny780] at H; replace Ny780 := yA Ny780))
    have H' := yA H
    clear H
    go_wp2_with (first | ((with_reducible refine gate_dst (N := 15) rfl ?_); refine Kd.S_lit (Kd.slice 3 (Kd.int .i64)) _ 38 ?hg (N := 15) ?hd (xs := ([] : List (List Int))) (inner := []) (ok := (fun k_ => (w.heap.size ≤ k_) ∧ some k_ ≠ (u5 : Value).ownBlock)) (okp := (fun k_ => (w.heap.size ≤ k_) ∧ some k_ ≠ (u5 : Value).ownBlock)) ?hr ?hp (fun _ hk => hk) ((show ∀ k_, wr.heap.size ≤ k_ → (fun k_ => (w.heap.size ≤ k_) ∧ some k_ ≠ (u5 : Value).ownBlock) k_ from fun k_ hk => ⟨(Nat.le_trans (yX (mB HB.out)) hk), Kd.fresh' (Kd.S_lt (mS HO_5.out)) k_ hk⟩) _ (zT _)) (zV _ _) (zT _) (by simp) ?_; (case hd => rfl); (case hg => rfl); (case hr => first | (go_simp; done) | (go_simp; rfl)); (case hp => exact (Reps.none _ _)); intro v781 w9 ho10 hb hg_ hnew_; clear hg_ hnew_; (first | rw [← Ny780.out] at ho10 | (simp only [Int.reduceToNat] at ho10; rw [← Ny780.out] at ho10)); replace HO_5 := yA (Kd.N_elder' (Kd.R_N (Kd.S_R (mS HO_5.out))) (Kd.S_base ho10) hb); have HO782 := yA (Kd.S_lower ho10 (yX (mB HB.out))); replace HB := yA (zD (mB HB.out) hb); clear hb ho10; obtain ⟨Ao11, co11, eo11⟩ := Kd.N_slice HO_5.out; subst eo11))
    go_loopg [6, 18] k1 (fun kq v6 v18 w' => ∃ (x6_2 : List (List Int)) (x18_2 : Int), v18 = .int .i64 x18_2 ∧ Aside0 (impl_allWords.l1 kq a0 x6_2 a1 x13_1 x5_1 (x5_1.length : Int) x18_2 = some r) ∧ Aside0 (kq ≤ k1) ∧ Aside0 (Kd.S (Kd.slice 3 (Kd.int .i64)) 38 w' w.heap.size (fun k_ => (w.heap.size ≤ k_) ∧ some k_ ≠ ((.slice Ao11 x5_1.length co11) : Value).ownBlock) v6 x6_2) ∧ Aside0 (Kd.N (Kd.slice 3 (Kd.int .i64)) 38 w' w.heap.size (fun k_ => (w.heap.size ≤ k_) ∧ some k_ ≠ (v6 : Value).ownBlock) (.slice Ao11 x5_1.length co11) x5_1) ∧ Aside0 (Below w.heap.size w w'))
    case atStart => exact ⟨(y780), (0), (by first | rfl | (simp; done) | (simp [*]; done)), H', ⟨zT _⟩, ⟨mS HO782.out⟩, ⟨by (with_reducible repeat (first | apply Kd.N_alloc | apply Kd.N_drewN | apply Kd.N_drew)); exact HO_5.out⟩, ⟨mB HB.out⟩⟩
    case round =>
     clear H'
     (try clear p2);(try clear c8);(try clear c8b0);(try clear p2)
     obtain ⟨x6_2, x18_2, rfl, HA, HK2, HO_6, HO_16, HB⟩ := hrel
     cases gk with
     | zero => exact absurd HA.out (by simp [impl_allWords.l1])
     | succ k2 =>
      have H := HA.out
      clear HA
      simp only [impl_allWords.l1] at H
      by_cases c12 : x18_2 < (x5_1.length : Int)
      ·rw [if_pos c12] at H
       have c12b0 : decide (x18_2 < (x5_1.length : Int)) = true := zH c12
       clear c12
       obtain ⟨c13, H⟩ := iP H
       have c13b0 : decide (0 ≤ x18_2) = true := zH c13
       clear c13
       obtain ⟨c14, H⟩ := iP H
       have c14b0 : decide (x18_2 < (x5_1.length : Int)) = true := zH c14
       clear c14
       have H' := yA H
       clear H
       have p783 : 0 ≤ (x18_2 : Int) := zG (by assumption)
       have q783 : x18_2 < (x5_1.length : Int) := zG (by assumption)
       obtain ⟨ad783, A783_0, c783_0, e783, hx783_0, hl783_0, hi783_0⟩ := at_L1 (Kd.N_reads' HO_16.out).2.2 x18_2 p783 q783
       cases e783
       obtain ⟨ce783, hce783, hMe783, hcc783⟩ := Kd.N_get HO_16.out [] x18_2 p783 (by first | exact q783 | exact zG (by assumption) | (have e_ := (Kd.N_reads' HO_16.out).1; omega))
       obtain ⟨ua783_0, uc783_0, rfl, ul783_0, ge783_0⟩ := Kd.FK_slice_open hMe783
       have hv783_0 := hcc783 0 _ rfl
       rw [Nat.add_zero, show ((Kd.slice 3 (Kd.int .i64))).sz = 1 from rfl, Nat.mul_one] at hv783_0
       replace hv783_0 := zU (hv783_0.symm.trans hx783_0)
       injection hv783_0 with hva_ hvn_ hvc_
       rw [hva_] at ge783_0
       rw [hvc_] at ul783_0
       have HL783_0 := yA (show Kd.V (Kd.int .i64) 3 _ w.heap.size _ _ (rd_L1 x5_1 x18_2) from Kd.V_mk ul783_0 ge783_0)
       clear hva_ hvn_ hvc_ ge783_0 ul783_0 hcc783 hce783
       have HR783_0 := yA hi783_0
       have HC783_0 := yA hl783_0
       clear hi783_0 hl783_0
       replace p783 := eq_true p783
       replace q783 := eq_true q783
       go_wp2
       go_loopg [6, 23] k2 (fun kq v6 v23 w' => ∃ (x6_3 : List (List Int)) (x23_3 : Int), v23 = .int .i64 x23_3 ∧ Aside0 (impl_allWords.l2 kq a0 x6_3 (rd_L1 x5_1 x18_2) a1 x13_1 x5_1 (x5_1.length : Int) x18_2 a0 x23_3 = some r) ∧ Aside0 (kq ≤ k2) ∧ Aside0 (Kd.S (Kd.slice 3 (Kd.int .i64)) 38 w' w.heap.size (fun k_ => (w.heap.size ≤ k_) ∧ some k_ ≠ ((.slice (some ad783) x5_1.length co11) : Value).ownBlock) v6 x6_3) ∧ Aside0 (Kd.N (Kd.slice 3 (Kd.int .i64)) 38 w' w.heap.size (fun k_ => (w.heap.size ≤ k_) ∧ some k_ ≠ (v6 : Value).ownBlock) (.slice (some ad783) x5_1.length co11) x5_1) ∧ Aside0 (Kd.V (Kd.int .i64) 3 w' w.heap.size (fun k_ => (w.heap.size ≤ k_ ∧ some k_ ≠ (.slice (some ad783) x5_1.length co11 : Value).ownBlock) ∧ some k_ ≠ (v6 : Value).ownBlock) (.slice A783_0 (rd_L1 x5_1 x18_2).length c783_0) (rd_L1 x5_1 x18_2)) ∧ Aside0 (Below w.heap.size w w'))
       case atStart => exact ⟨(x6_2), (0), (by first | rfl | (simp; done) | (simp [*]; done)), H', ⟨zT _⟩, ⟨mS HO_6.out⟩, ⟨by (with_reducible repeat (first | apply Kd.N_alloc | apply Kd.N_drewN | apply Kd.N_drew)); exact HO_16.out⟩, ⟨by (with_reducible repeat (first | apply Kd.V_alloc | apply Kd.V_drewN | apply Kd.V_drew)); exact Kd.V_mono HL783_0.out (fun _ hk => ⟨⟨hk.1.1, hk.2⟩, hk.1.2⟩)⟩, ⟨mB HB.out⟩⟩
       case round =>
        clear H'
        (try clear c1);(try clear p2);(try clear c7);(try clear p7);(try clear q7);(try clear hx7);(try clear c8);(try clear c8b0);(try clear c12);(try clear c12b0);(try clear c13);(try clear c13b0);(try clear c14);(try clear c14b0);(try clear hx783_0);(try clear p2);(try clear p783);(try clear q783);(try clear HL783_0)
        obtain ⟨x6_3, x23_3, rfl, HA, HK3, HO_6, HO_16, HLrow, HB⟩ := hrel
        cases gk with
        | zero => exact absurd HA.out (by simp [impl_allWords.l2])
        | succ k3 =>
         have H := HA.out
         clear HA
         simp only [impl_allWords.l2] at H
         by_cases c15 : x23_3 < a0
         ·rw [if_pos c15] at H
          have c15b0 : decide (x23_3 < a0) = true := zH c15
          clear c15
          (first | ((with_reducible replace H := bS H); obtain ⟨y784, Ny784, H⟩ := H) | (obtain ⟨y784, Ny784⟩ : ∃ y_ : List Int, y_ = (([] : List Int)) := ⟨_, rfl⟩; rw [← Ny784] at H; replace Ny784 := yA Ny784))
          obtain ⟨c16, H⟩ := iP H
          have LMc16 := yA c16
          clear c16
          (first | ((with_reducible replace H := bS H); obtain ⟨y787, Ny787, H⟩ := H) | (obtain ⟨y787, Ny787⟩ : ∃ y_ : List Int, y_ = (y784 ++ (rd_L1 x5_1 x18_2)) := ⟨_, rfl⟩; rw [← Ny787] at H; replace Ny787 := yA Ny787))
          obtain ⟨c17, H⟩ := iP H
          have LMc17 := yA c17
          clear c17
          (first | ((with_reducible replace H := bS H); obtain ⟨y790, Ny790, H⟩ := H) | (obtain ⟨y790, Ny790⟩ : ∃ y_ : List Int, y_ = (y787 ++ [x23_3]) := ⟨_, rfl⟩; rw [← Ny790] at H; replace Ny790 := yA Ny790))
          obtain ⟨c18, H⟩ := iP H
          have LMc18 := yA c18
          clear c18
          (first | ((with_reducible replace H := bS H); obtain ⟨y793, Ny793, H⟩ := H) | (obtain ⟨y793, Ny793⟩ : ∃ y_ : List (List Int), y_ = (x6_3 ++ [y790]) := ⟨_, rfl⟩; rw [← Ny793] at H; replace Ny793 := yA Ny793))
          have H' := yA H
          clear H
          go_wp2_with (first | ((with_reducible refine gate_dst (N := 27) rfl ?_); refine Kd.R_lit (Kd.int .i64) _ 3 ?hg (N := 27) ?hd (xs := ([] : List Int)) (inner := []) (ok := fun _ => True) (okp := fun _ => True) ?hr ?hp (fun _ hk => hk) trivial (zV _ _) (zT _) (by simp) ?_; (case hd => rfl); (case hg => rfl); (case hr => first | (go_simp; done) | (go_simp; rfl)); (case hp => exact (Reps.none _ _)); intro v785 w19 ho20 hb hg_ hnew_; clear hg_ hnew_; (first | rw [← Ny784.out] at ho20 | (simp only [Int.reduceToNat] at ho20; rw [← Ny784.out] at ho20)); have nL_ := yA (Kd.V_elder' (by (with_reducible repeat (first | apply Kd.V_alloc | apply Kd.V_drewN | apply Kd.V_drew)); exact HLrow.out) (yY ho20) hb); clear HLrow; replace HO_6 := yA (Kd.S_elder' (mS HO_6.out) (yY ho20) hb); replace HO_16 := yA (Kd.N_elder' (by (with_reducible repeat (first | apply Kd.N_alloc | apply Kd.N_drewN | apply Kd.N_drew)); exact HO_16.out) (yY ho20) hb); have HO786 := yA (Kd.R_lower (Kd.R_newM (M := fun k_ => (w.heap.size ≤ k_)) ho20 (yX (mB HB.out)) (fun k_ h_ => h_)) (yX (mB HB.out))); replace HB := yA (zD (mB HB.out) hb); have HLrow := nL_; clear nL_; clear hb ho20) | ((with_reducible refine gate_builtin (b := .append) (xs := #[.tmp 27, .tmp 28]) rfl ?_); at_builtin; refine Kd.R_append_rows (Kd.int .i64) (w0 := w) w.heap.size rfl (.tmp 27) (.tmp 28) 38 3 (.int .i64 0) 8 rfl Try.underlying38 info3 rfl (by decide) (by omega) v785 y784 (rd_L1 x5_1 x18_2) _ _ _ (fun k_ => (w.heap.size ≤ k_)) (fun _ => False) rfl rfl ?aO ?aR (fun _ _ h => h) (fun _ h => h.elim) ?aF ?aB ?aS ?aL ?_; (case aR => (obtain ⟨A_, c_, e_, _, f_⟩ := HLrow.out; injection e_ with e1_ e2_ e3_; subst e1_; first | exact (Foot.now f_) | exact yE ((Foot.now f_)) _ | exact yF ((Foot.now f_)) _ | exact yG ((Foot.now f_)))); (case aB => exact (mB HB.out)); (case aF => exact (fun k_ hk => (Nat.le_trans (yX (mB HB.out)) hk))); (case aO => exact (mR (zP HO786.out (fun _ hk => hk.1)))); (case aS => exact (yX (mB HB.out))); (case aL => have := LMc16.out; omega); intro v788 w21 ho hb hg hat; rw [← Ny787.out] at ho; have nL_ := yA (Kd.V_afterv (by (with_reducible repeat (first | apply Kd.V_alloc | apply Kd.V_drewN | apply Kd.V_drew)); exact HLrow.out) hg hat); clear HLrow; replace HO_6 := yA (Kd.S_after (ok := (fun k_ => (w.heap.size ≤ k_) ∧ some k_ ≠ (.slice (some ad783) x5_1.length co11 : Value).ownBlock)) (mS HO_6.out) hg hat); replace HO_16 := yA (Kd.N_afterv (ok := (fun k_ => (w.heap.size ≤ k_) ∧ some k_ ≠ (u6 : Value).ownBlock)) (by (with_reducible repeat (first | apply Kd.N_alloc | apply Kd.N_drewN | apply Kd.N_drew)); exact HO_16.out) hg hat); replace HB := yA (hb); have HO789 := yA (ho); clear HO786; have HLrow := nL_; clear nL_; clear ho hb hg hat) | ((with_reducible refine gate_builtin (b := .append) (xs := #[.tmp 29, .tmp 31]) rfl ?_); at_builtin; refine Kd.R_append (Kd.int .i64) (w0 := w) w.heap.size rfl (.tmp 29) (.tmp 31) 38 3 (.int .i64 0) 8 rfl Try.underlying38 info3 rfl (by decide) (by omega) v788 y787 x23_3 [.int .i64 x23_3] (fun k_ => (w.heap.size ≤ k_)) (fun _ => False) rfl rfl ?aP (fun _ hk => hk.elim) ?aF ?aO ?aB ?aS ?aL ?_; (case aP => exact rfl); (case aB => exact (mB HB.out)); (case aF => exact (fun k_ hk => (Nat.le_trans (yX (mB HB.out)) hk))); (case aO => exact (mR HO789.out)); (case aS => exact (yX (mB HB.out))); (case aL => have := LMc17.out; omega); intro v791 w22 ho hb hg hat; rw [← Ny790.out] at ho; have nL_ := yA (Kd.V_afterv (by (with_reducible repeat (first | apply Kd.V_alloc | apply Kd.V_drewN | apply Kd.V_drew)); exact HLrow.out) hg hat); clear HLrow; replace HO_6 := yA (Kd.S_after (ok := (fun k_ => (w.heap.size ≤ k_) ∧ some k_ ≠ (.slice (some ad783) x5_1.length co11 : Value).ownBlock)) (mS HO_6.out) hg hat); replace HO_16 := yA (Kd.N_afterv (ok := (fun k_ => (w.heap.size ≤ k_) ∧ some k_ ≠ (u6 : Value).ownBlock)) (by (with_reducible repeat (first | apply Kd.N_alloc | apply Kd.N_drewN | apply Kd.N_drew)); exact HO_16.out) hg hat); replace HB := yA (hb); have HO792 := yA (ho); clear HO789; have HLrow := nL_; clear nL_; clear ho hb hg hat; obtain ⟨Ao24, co24, eo24⟩ := Kd.R_slice HO792.out; subst eo24) | ((with_reducible refine gate_builtin (b := .append) (xs := #[.tmp 26, .tmp 33]) rfl ?_); at_builtin; refine Kd.S_append (Kd.slice 3 (Kd.int .i64)) (w0 := w) w.heap.size rfl (.tmp 26) (.tmp 33) 22 38 (.slice none 0 0) 24 rfl Try.underlying22 info38 rfl (by decide) (by omega) u6 x6_3 y790 [.slice Ao24 y790.length co24] (fun k_ => (w.heap.size ≤ k_) ∧ some k_ ≠ (.slice (some ad783) x5_1.length co11 : Value).ownBlock) (fun k_ => some k_ = (.slice Ao24 y790.length co24 : Value).ownBlock) rfl rfl ?aP (fun k_ hk_ => ((zP (ok' := (fun k_ => ((fun k_ => (w.heap.size ≤ k_) ∧ some k_ ≠ (.slice (some ad783) x5_1.length co11 : Value).ownBlock)) k_ ∧ some k_ ≠ (u6 : Value).ownBlock)) (Kd.R_apart' (Kd.R_apart' (HO792.out) (Kd.N_typed HO_16.out) (by decide)) (Kd.S_typed HO_6.out) (by decide)) (fun k_ hk => ⟨⟨hk.1.1, hk.1.2⟩, hk.2⟩))).1 k_ hk_.symm) ?aF ?aO ?aB ?aS ?aL ?_; (case aP => exact Kd.M_row (zP (Kd.R_tight rfl (zP (ok' := (fun k_ => ((fun k_ => (w.heap.size ≤ k_) ∧ some k_ ≠ (.slice (some ad783) x5_1.length co11 : Value).ownBlock)) k_ ∧ some k_ ≠ (u6 : Value).ownBlock)) (Kd.R_apart' (Kd.R_apart' (HO792.out) (Kd.N_typed HO_16.out) (by decide)) (Kd.S_typed HO_6.out) (by decide)) (fun k_ hk => ⟨⟨hk.1.1, hk.1.2⟩, hk.2⟩))) (fun _ h_ => h_))); (case aB => exact (mB HB.out)); (case aF => exact (fun k_ hk => ⟨(Nat.le_trans (yX (mB HB.out)) hk), Kd.fresh' (Kd.N_lt (by (with_reducible repeat (first | apply Kd.N_alloc | apply Kd.N_drewN | apply Kd.N_drew)); exact HO_16.out)) k_ hk⟩)); (case aO => exact (mS (Kd.S_mono HO_6.out (fun _ hk => ⟨⟨hk.1.1, hk.1.2⟩, fun e_ => hk.2 e_⟩)))); (case aS => exact (yX (mB HB.out))); (case aL => have := LMc18.out; omega); intro v794 w23 ho hb hg hat; rw [← Ny793.out] at ho; have nM_ := yA (Kd.V_mono HLrow.out (fun _ hk => hk.1)); have nL_ := yA (Kd.V_afterv (by (with_reducible repeat (first | apply Kd.V_alloc | apply Kd.V_drewN | apply Kd.V_drew)); exact nM_.out) hg hat); clear HLrow nM_; replace HO_16 := yA (Kd.N_afterv (ok := (fun k_ => (w.heap.size ≤ k_) ∧ some k_ ≠ (.slice Ao24 y790.length co24 : Value).ownBlock)) (by (with_reducible repeat (first | apply Kd.N_alloc | apply Kd.N_drewN | apply Kd.N_drew)); exact Kd.N_mono HO_16.out (fun _ hk => ⟨⟨hk.1.1, hk.2⟩, hk.1.2⟩)) hg hat); replace HB := yA (hb); have HO795 := yA (ho); clear HO_6 HO792; have HLrow := nL_; clear nL_; clear ho hb hg hat))
          go_roundg k3
          case measure => have := HK1.out; have := HK2.out; have := HK3.out; omega
          case rel => exact ⟨(y793), (wrap64 (x23_3 + 1)), (by first | rfl | (simp; done) | (simp [*]; done)), H', ⟨by have := HK1.out; have := HK2.out; have := HK3.out; omega⟩, ⟨mS HO795.out⟩, ⟨by (with_reducible repeat (first | apply Kd.N_alloc | apply Kd.N_drewN | apply Kd.N_drew)); exact Kd.N_mono HO_16.out (fun _ hk => ⟨hk.1.1, hk.2⟩)⟩, ⟨by (with_reducible repeat (first | apply Kd.V_alloc | apply Kd.V_drewN | apply Kd.V_drew)); exact HLrow.out⟩, ⟨mB HB.out⟩⟩
         ·rw [if_neg c15] at H
          have c15b0 : decide (x23_3 < a0) = false := decide_eq_false c15
          clear c15
          have H' := yA H
          clear H
          go_wp2
          go_roundg k3
          case measure => have := HK1.out; have := HK2.out; have := HK3.out; omega
          case rel => exact ⟨(x6_3), (wrap64 (x18_2 + 1)), (by first | rfl | (simp; done) | (simp [*]; done)), H', ⟨by have := HK1.out; have := HK2.out; have := HK3.out; omega⟩, ⟨mS HO_6.out⟩, ⟨by (with_reducible repeat (first | apply Kd.N_alloc | apply Kd.N_drewN | apply Kd.N_drew)); exact HO_16.out⟩, ⟨mB HB.out⟩⟩
      ·rw [if_neg c12] at H
       have c12b0 : decide (x18_2 < (x5_1.length : Int)) = false := decide_eq_false c12
       clear c12
       have H' := yA H
       clear H
       go_wp2
       go_roundg k2
       case measure => have := HK1.out; have := HK2.out; omega
       case rel => exact ⟨(x6_2), (wrap64 (x13_1 + 1)), (by first | rfl | (simp; done) | (simp [*]; done)), H', ⟨by have := HK1.out; have := HK2.out; omega⟩, ⟨mS (Kd.S_mono HO_6.out (fun _ hk => hk.1))⟩, ⟨mB HB.out⟩⟩
   ·rw [if_neg c8] at H
    have c8b0 : decide (x13_1 < a1) = false := decide_eq_false c8
    clear c8
    obtain rfl := zU H
    go_wp2
    go_ret
    exact ⟨_, by first | rfl | (simp [errW_none, errW_some] <;> rfl) | (simp [*, errW_none, errW_some] <;> rfl), mS HO_5.out, by repeat (first | (with_reducible first | exact HB.out | apply yO | apply yN | apply yP) | exact HB.out)⟩

end Go.Proofs.Ytgopcliohchkmaa.Q
