-- written by a program of this session (a turned copy of the kit's print) out of the translation
-- squeezed
-- compact
import Derived.Test.YtgopcliohchkmaaQ0
import Derived.Test.YtgopcliohchkmaaQ5
namespace Go.Proofs.Ytgopcliohchkmaa.Q
open Go.RowKit Go.Proofs.YtgopcliohchkmaaW.PrintWords Go.Proofs.YtgopcliohchkmaaW.PrintLast Go.Proofs.YtgopcliohchkmaaW.PrintMore
attribute [local go_sem] max2_int min2_int max_two min_two max_three min_three max_four min_four   -- for this text's walks alone
set_option linter.unusedVariables false
set_option linter.unusedSimpArgs false

/-! ### impl_Relation_numbers: function 76 -/
mutual
def impl_Relation_numbers.l0 : Nat → List Int → List Int → Int → Int → Int → Int → List (List Int) → List Bool → Option (List Int)
 | 0, _, _, _, _, _, _, _, _ => none
 | k + 1, x5, x13, x14, x15, x656000, x656001, x656002, x656003 => if x15 < x14 then (if 0 ≤ x15 then (if x15 < (x13.length : Int) then ((impl_tracksOf.f k x656000 x656001 (rd x13 x15)).bind fun t660 => (impl_Relation_numbers.l1 k x5 x13 x14 x15 t660 (t660.length : Int) 0 x656000 x656001 x656002 x656003)) else (none)) else (none)) else (some x5)
def impl_Relation_numbers.l1 : Nat → List Int → List Int → Int → Int → List Int → Int → Int → Int → Int → List (List Int) → List Bool → Option (List Int)
 | 0, _, _, _, _, _, _, _, _, _, _, _ => none
 | k + 1, x5, x13, x14, x15, x24, x25, x26, x656000, x656001, x656002, x656003 => if x26 < x25 then (if 0 ≤ x26 then (if x26 < (x24.length : Int) then (if x26 < (x5.length : Int) then (impl_Relation_numbers.l1 k (x5.set (x26 : Int).toNat (wrap64 ((wrap64 ((rd x5 x26) * x656000)) + (rd x24 x26)))) x13 x14 x15 x24 x25 (wrap64 (x26 + 1)) x656000 x656001 x656002 x656003) else (none)) else (none)) else (none)) else (impl_Relation_numbers.l0 k x5 x13 x14 (wrap64 (x15 + 1)) x656000 x656001 x656002 x656003)
end
def impl_Relation_numbers.f (k : Nat) (a0_0 : Int) (a0_1 : Int) (l0_2 : List (List Int)) (l0_3 : List Bool) (l1 : List Int) : Option (List Int) := if 0 ≤ a0_1 then (if (a0_1 : Int).toNat ≤ 35184372088832 then (impl_Relation_numbers.l0 k (List.replicate (a0_1 : Int).toNat 0) l1 (l1.length : Int) 0 a0_0 a0_1 l0_2 l0_3) else (none)) else (none)
theorem impl_Relation_numbers.mono_l : ∀ k, (∀ y0 y1 y2 y3 y4 y5 y6 y7, LeO (impl_Relation_numbers.l0 k y0 y1 y2 y3 y4 y5 y6 y7) (impl_Relation_numbers.l0 (k + 1) y0 y1 y2 y3 y4 y5 y6 y7)) ∧ (∀ y0 y1 y2 y3 y4 y5 y6 y7 y8 y9 y10, LeO (impl_Relation_numbers.l1 k y0 y1 y2 y3 y4 y5 y6 y7 y8 y9 y10) (impl_Relation_numbers.l1 (k + 1) y0 y1 y2 y3 y4 y5 y6 y7 y8 y9 y10))
 | 0 => ⟨fun _ _ _ _ _ _ _ _ r h => by simp [impl_Relation_numbers.l0] at h, fun _ _ _ _ _ _ _ _ _ _ _ r h => by simp [impl_Relation_numbers.l1] at h⟩
 | k + 1 => by
  obtain ⟨ih0, ih1⟩ := impl_Relation_numbers.mono_l k
  refine ⟨?_, ?_⟩
  ·intro y0 y1 y2 y3 y4 y5 y6 y7
   unfold impl_Relation_numbers.l0
   repeat' first
   | (with_reducible exact ih0 _ _ _ _ _ _ _ _)
   | (with_reducible exact ih1 _ _ _ _ _ _ _ _ _ _ _)
   | (with_reducible exact impl_tracksOf.mono _ _ _ _)
   | (with_reducible exact LeO.refl _)
   | (with_reducible exact LeO.none _)
   | (with_reducible refine LeO.ite ?_ ?_)
   | (with_reducible refine LeO.bind ?_ (fun _ => ?_))
   | exact ih0 _ _ _ _ _ _ _ _
   | exact ih1 _ _ _ _ _ _ _ _ _ _ _
   | exact impl_tracksOf.mono _ _ _ _
   | exact LeO.none _
   | refine LeO.ite ?_ ?_
   | refine LeO.bind ?_ (fun _ => ?_)
  ·intro y0 y1 y2 y3 y4 y5 y6 y7 y8 y9 y10
   unfold impl_Relation_numbers.l1
   repeat' first
   | (with_reducible exact ih0 _ _ _ _ _ _ _ _)
   | (with_reducible exact ih1 _ _ _ _ _ _ _ _ _ _ _)
   | (with_reducible exact impl_tracksOf.mono _ _ _ _)
   | (with_reducible exact LeO.refl _)
   | (with_reducible exact LeO.none _)
   | (with_reducible refine LeO.ite ?_ ?_)
   | (with_reducible refine LeO.bind ?_ (fun _ => ?_))
   | exact ih0 _ _ _ _ _ _ _ _
   | exact ih1 _ _ _ _ _ _ _ _ _ _ _
   | exact impl_tracksOf.mono _ _ _ _
   | exact LeO.none _
   | refine LeO.ite ?_ ?_
   | refine LeO.bind ?_ (fun _ => ?_)
theorem impl_Relation_numbers.mono : ∀ a0 a1 a2 a3 a4 k, LeO (impl_Relation_numbers.f k a0 a1 a2 a3 a4) (impl_Relation_numbers.f (k + 1) a0 a1 a2 a3 a4) := by
 intro a0 a1 a2 a3 a4 k
 obtain ⟨ih0, ih1⟩ := impl_Relation_numbers.mono_l k
 unfold impl_Relation_numbers.f
 repeat' first
   | (with_reducible exact ih0 _ _ _ _ _ _ _ _)
   | (with_reducible exact ih1 _ _ _ _ _ _ _ _ _ _ _)
   | (with_reducible exact impl_tracksOf.mono _ _ _ _)
   | (with_reducible exact LeO.refl _)
   | (with_reducible exact LeO.none _)
   | (with_reducible refine LeO.ite ?_ ?_)
   | (with_reducible refine LeO.bind ?_ (fun _ => ?_))
   | exact ih0 _ _ _ _ _ _ _ _
   | exact ih1 _ _ _ _ _ _ _ _ _ _ _
   | exact impl_tracksOf.mono _ _ _ _
   | exact LeO.none _
   | refine LeO.ite ?_ ?_
   | refine LeO.bind ?_ (fun _ => ?_)
def impl_Relation_numbers.T8 : Bool × List (List Nat × List Nat) := (true, [([], []), ([], []), ([], []), ([], []), ([2, 3], [2, 3]), ([4], [4]), ([], []), ([6], [6]), ([5, 7], [5, 7]), ([], []), ([8, 9], [8, 9]), ([0, 1, 0, 1, 2, 3, 4, 5, 6, 7, 8, 9, 10], [0, 1]), ([11, 10, 0, 1, 2, 3, 4, 5, 6, 7, 8, 9, 10], [10, 11])])
def impl_Relation_numbers.B8 : List Nat := [0, 0, 0, 0, 12, 28, 0, 64, 252, 0, 1020, 2047, 4095]
theorem impl_Relation_numbers.tab8 : rtab .any (opsOf Try.f76 8) = impl_Relation_numbers.T8 := by kernel_rfl
theorem impl_Relation_numbers.bits8 : waitsOk impl_Relation_numbers.T8.2 impl_Relation_numbers.B8 = true := by kernel_rfl
set_option maxHeartbeats 8000000 in
set_option maxRecDepth 100000 in
theorem impl_Relation_numbers.calls (k : Nat) (a0_0 : Int) (a0_1 : Int) (A0_2 : Option Addr) (c0_2 : Nat) (l0_2 : List (List Int)) (A0_3 : Option Addr) (c0_3 : Nat) (l0_3 : List Bool) (A1 : Option Addr) (c1 : Nat) (l1 : List Int) (r : List Int) (w : World) (hr0_2 : Kd.C (Kd.slice 3 (Kd.int .i64)) w A0_2 l0_2.length l0_2) (hc0_2 : l0_2.length ≤ c0_2) (hr0_3 : Kd.C Kd.bool w A0_3 l0_3.length l0_3) (hc0_3 : l0_3.length ≤ c0_3) (hr1 : Kd.C (Kd.int .i64) w A1 l1.length l1) (hc1 : l1.length ≤ c1) (h : impl_Relation_numbers.f k a0_0 a0_1 l0_2 l0_3 l1 = some r) :
  Calls Try.prog 76 #[.agg #[.int .i64 a0_0, .int .i64 a0_1, .slice A0_2 l0_2.length c0_2, .slice A0_3 l0_3.length c0_3], .slice A1 l1.length c1] w fun e w' => ∃ v0_ : Value, e = .returned (v0_) ∧ Kd.R (Kd.int .i64) 3 w' w.heap.size (fun _ => True) v0_ r ∧ Below w.heap.size w w' := by
 have hu25 := Try.underlying25
 have HR0_2 := yA hr0_2
 have HC0_2 := yA hc0_2
 clear hr0_2 hc0_2
 have HR0_3 := yA hr0_3
 have HC0_3 := yA hc0_3
 clear hr0_3 hc0_3
 have HR1 := yA hr1
 have HC1 := yA hc1
 clear hr1 hc1
 have HB := yA (zV w.heap.size w)
 have H : (if 0 ≤ a0_1 then (if (a0_1 : Int).toNat ≤ 35184372088832 then (impl_Relation_numbers.l0 k (List.replicate (a0_1 : Int).toNat 0) l1 (l1.length : Int) 0 a0_0 a0_1 l0_2 l0_3) else (none)) else (none)) = some r := h
 clear h
 by_cases c3 : 0 ≤ a0_1
 ·rw [if_pos c3] at H
  have c3b0 := eq_true c3
  have c3b1 : decide (0 ≤ a0_1) = true := zH c3
  clear c3
  by_cases c4 : (a0_1 : Int).toNat ≤ 35184372088832
  ·rw [if_pos c4] at H
   have c4b0 := eq_true c4
   have c4b1 : decide ((a0_1 : Int).toNat ≤ 35184372088832) = true := zH c4
   clear c4
   obtain ⟨y656, hy656⟩ : ∃ y_ : List Int, y_ = (List.replicate (a0_1 : Int).toNat 0) := ⟨_, rfl⟩
   replace H : (impl_Relation_numbers.l0 k y656 l1 (l1.length : Int) 0 a0_0 a0_1 l0_2 l0_3) = some r := by first | (rw [hy656]; with_reducible exact H) | (have H2_ := (Option.bind_some _ _).symm.trans H; rw [hy656]; with_reducible exact H2_) | (have H2_ := (Option.bind_some _ _).symm.trans H; with_reducible exact H2_) | with_reducible exact H | (rw [hy656]; exact H) | exact H
   have Ny656 := yA hy656
   clear hy656
   have H' := yA H
   clear H
   go_enter Try.func76, Try.ntmps76
   go_wp2_with (first | ((with_reducible refine gate_dst (N := 2) rfl ?_); refine box_event ?hg (N := 2) ?hd (cs := #[.int .i64 a0_0, .int .i64 a0_1, .slice A0_2 l0_2.length c0_2, .slice A0_3 l0_3.length c0_3]) (t := 25) ?hr ?_; (case hd => rfl); (case hg => rfl); (case hr => first | (go_simp; done) | (go_simp; rfl)); intro gb655 hg w5 hbox hb; have n0_ := yA (zD (mB HB.out) hb); have n1_ := yA (hbox); have n2_ := yA ((by rw [hg]; exact (yX (mB HB.out)) : w.heap.size ≤ gb655)); have n3_ := yA ((by rw [hg]; exact (yX (mB HB.out)) : w.heap.size ≤ gb655)); clear HB; have HB := n0_; have BK655 := n1_; have GW655 := n2_; have GE655 := n3_; clear n0_ n1_ n2_ n3_; clear hb hbox hg; have hcz6_0 : w5.cell? ⟨gb655, 0, none⟩ = some (.int .i64 a0_0) := (yV BK655.out 0).trans rfl; have hcz6_1 : w5.cell? ⟨gb655, 1, none⟩ = some (.int .i64 a0_1) := (yV BK655.out 1).trans rfl; have hcz6_2 : w5.cell? ⟨gb655, 2, none⟩ = some (.slice A0_2 l0_2.length c0_2) := (yV BK655.out 2).trans rfl; have hcz6_3 : w5.cell? ⟨gb655, 3, none⟩ = some (.slice A0_3 l0_3.length c0_3) := (yV BK655.out 3).trans rfl; have hfz6_0 := yW BK655.out 0; have hfz6_1 := yW BK655.out 1; have hfz6_2 := yW BK655.out 2; have hfz6_3 := yW BK655.out 3) | ((with_reducible refine gate_dst (N := 12) rfl ?_); refine Kd.R_make (Kd.int .i64) _ 3 rfl (N := 12) rfl 38 _ _ rfl a0_1 rfl rfl Try.underlying38 (.int .i64 0) 8 info3 rfl (by decide) (by omega) 0 (ok := fun _ => True) (okp := fun _ => True) rfl (fun _ hk => hk) trivial (zG (by first | (with_reducible assumption) | assumption)) (Nat.le_trans (Nat.mul_le_mul_right _ (zG (by first | (with_reducible assumption) | assumption) : a0_1.toNat ≤ 35184372088832)) (by omega)) (zV _ _) (zT _) ?_; intro v657 w7 ho8 hb hg_ hnew_; clear hg_ hnew_; (first | rw [← Ny656.out] at ho8 | (simp only [Int.reduceToNat] at ho8; rw [← Ny656.out] at ho8)); have n0_ := yA (Kd.R_lower ho8 (yX (by with_reducible repeat first | exact HB.out | apply yO | apply yN | apply yP | refine yQ ?_ GE655.out))); have n1_ := yA (yU (mK BK655.out) hb); have n2_ := yA (zD (by with_reducible repeat first | exact HB.out | apply yO | apply yN | apply yP | refine yQ ?_ GE655.out) hb); clear BK655; clear HB; have HO658 := n0_; have BK655 := n1_; have HB := n2_; clear n0_ n1_ n2_; clear hb ho8))
   go_loopg [15] k (fun kq v15 w' => ∃ (x5_1 : List Int) (x15_1 : Int), v15 = .int .i64 x15_1 ∧ Aside0 (impl_Relation_numbers.l0 kq x5_1 l1 (l1.length : Int) x15_1 a0_0 a0_1 l0_2 l0_3 = some r) ∧ Aside0 (kq ≤ k) ∧ Aside0 (Kd.R (Kd.int .i64) 3 w' w.heap.size (fun _ => True) v657 x5_1) ∧ Aside0 (w'.heap[gb655]? = some (.cells #[.int .i64 a0_0, .int .i64 a0_1, (.slice A0_2 l0_2.length c0_2), (.slice A0_3 l0_3.length c0_3)] 25 (0, 0))) ∧ Aside0 (Below w.heap.size w w'))
   case atStart => exact ⟨(y656), (0), (by first | rfl | (simp; done) | (simp [*]; done)), H', ⟨zT _⟩, ⟨by (with_reducible repeat (first | apply yB | apply yC | apply yD)); exact HO658.out⟩, ⟨by (with_reducible repeat (first | refine yS ?_ _ | refine yT ?_ | refine yR ?_ _)); exact BK655.out⟩, ⟨by repeat (first | (with_reducible first | exact HB.out | apply yO | apply yN | apply yP | refine yQ ?_ GE655.out) | exact HB.out)⟩⟩
   case round =>
    clear H'
    try clear c1
    try clear p2
    try clear c3
    try clear c3b0
    try clear c3b1
    try clear c4
    try clear c4b0
    try clear c4b1
    try clear c7
    try clear hcz6_0
    try clear hcz6_1
    try clear hcz6_2
    try clear hcz6_3
    try clear hfz6_0
    try clear hfz6_1
    try clear hfz6_2
    try clear hfz6_3
    obtain ⟨x5_1, x15_1, rfl, HA, HK1, HO_5, BK655, HB⟩ := hrel
    cases gk with
    | zero => exact absurd HA.out (by simp [impl_Relation_numbers.l0])
    | succ k1 =>
     have H := HA.out
     clear HA
     simp only [impl_Relation_numbers.l0] at H
     by_cases c9 : x15_1 < (l1.length : Int)
     ·rw [if_pos c9] at H
      have c9b0 : decide (x15_1 < (l1.length : Int)) = true := zH c9
      clear c9
      by_cases c10 : 0 ≤ x15_1
      ·rw [if_pos c10] at H
       have c10b0 : decide (0 ≤ x15_1) = true := zH c10
       clear c10
       by_cases c11 : x15_1 < (l1.length : Int)
       ·rw [if_pos c11] at H
        have c11b0 : decide (x15_1 < (l1.length : Int)) = true := zH c11
        clear c11
        replace H := Option.bind_eq_some_iff.mp H
        obtain ⟨t660, A120, H⟩ := H
        replace H : (impl_Relation_numbers.l1 k1 x5_1 l1 (l1.length : Int) x15_1 t660 (t660.length : Int) 0 a0_0 a0_1 l0_2 l0_3) = some r := H
        have A12 := yA A120
        clear A120
        have H' := yA H
        clear H
        have p659 : 0 ≤ (x15_1 : Int) := zG (by first | (with_reducible assumption) | assumption)
        have q659 : x15_1 < (l1.length : Int) := zG (by first | (with_reducible assumption) | assumption)
        obtain ⟨ad659, e659, hx659_0⟩ := Kd.at_int HR1.out x15_1 p659 q659
        cases e659
        try replace hx659_0 := (HB.out.cell (zE w _ hx659_0)).trans hx659_0
        replace p659 := eq_true p659
        replace q659 := eq_true q659
        have hcz13_0 : wr.cell? ⟨gb655, 0, none⟩ = some (.int .i64 a0_0) := (yV BK655.out 0).trans rfl
        have hcz13_1 : wr.cell? ⟨gb655, 1, none⟩ = some (.int .i64 a0_1) := (yV BK655.out 1).trans rfl
        have hcz13_2 : wr.cell? ⟨gb655, 2, none⟩ = some (.slice A0_2 l0_2.length c0_2) := (yV BK655.out 2).trans rfl
        have hcz13_3 : wr.cell? ⟨gb655, 3, none⟩ = some (.slice A0_3 l0_3.length c0_3) := (yV BK655.out 3).trans rfl
        have hfz13_0 := yW BK655.out 0
        have hfz13_1 := yW BK655.out 1
        have hfz13_2 := yW BK655.out 2
        have hfz13_3 := yW BK655.out 3
        go_wp2_with (first | ((with_reducible refine zS (f := 91) rfl ?_); refine goesL_ (some 24) rfl rfl Try.func91 (by kernel_rfl) rfl #[.int .i64 a0_0, .int .i64 a0_1, .int .i64 (rd l1 x15_1)] rfl (by (try simp only [zI, zJ, zK]); first | done | rfl | (simp only [zL, zM]; rfl)) ?_; (with_reducible refine (impl_tracksOf.calls k1 a0_0 a0_1 (rd l1 x15_1) t660 _ A12.out).mono ?_); rintro e w14 ⟨v661, rfl, ho0, hb⟩; refine ⟨_, rfl, ?_⟩; have n0_ := yA (zO (mR HO_5.out) (yY ho0) hb); have n1_ := yA (Kd.R_lower (Kd.R_new' ho0 (yZ (mR HO_5.out))) (yX (by with_reducible repeat first | exact HB.out | apply yO | apply yN | apply yP | refine yQ ?_ GE655.out))); have n2_ := yA (yU (mK BK655.out) hb); have n3_ := yA (zD (by with_reducible repeat first | exact HB.out | apply yO | apply yN | apply yP | refine yQ ?_ GE655.out) hb); clear HO_5; clear BK655; clear HB; have HO_5 := n0_; have HO662 := n1_; have BK655 := n2_; have HB := n3_; clear n0_ n1_ n2_ n3_; (try clear hb); (try clear hb2); (try clear hk); (try clear hi); (try clear ho0); obtain ⟨Ao15, co15, eo15⟩ := Kd.R_slice HO662.out; subst eo15))
        go_loopg [26] k1 (fun kq v26 w' => ∃ (x5_2 : List Int) (x26_2 : Int), v26 = .int .i64 x26_2 ∧ Aside0 (impl_Relation_numbers.l1 kq x5_2 l1 (l1.length : Int) x15_1 t660 (t660.length : Int) x26_2 a0_0 a0_1 l0_2 l0_3 = some r) ∧ Aside0 (kq ≤ k1) ∧ Aside0 (Kd.R (Kd.int .i64) 3 w' w.heap.size (fun k_ => some k_ ≠ ((.slice Ao15 t660.length co15) : Value).ownBlock) v657 x5_2) ∧ Aside0 (Kd.R (Kd.int .i64) 3 w' w.heap.size (fun k_ => some k_ ≠ (v657 : Value).ownBlock) (.slice Ao15 t660.length co15) t660) ∧ Aside0 (w'.heap[gb655]? = some (.cells #[.int .i64 a0_0, .int .i64 a0_1, (.slice A0_2 l0_2.length c0_2), (.slice A0_3 l0_3.length c0_3)] 25 (0, 0))) ∧ Aside0 (Below w.heap.size w w'))
        case atStart => exact ⟨(x5_1), (0), (by first | rfl | (simp; done) | (simp [*]; done)), H', ⟨zT _⟩, ⟨by (with_reducible repeat (first | apply yB | apply yC | apply yD)); exact zP HO_5.out (fun _ hk => hk.2)⟩, ⟨by (with_reducible repeat (first | apply yB | apply yC | apply yD)); exact zP HO662.out (fun _ hk => hk.2)⟩, ⟨by (with_reducible repeat (first | refine yS ?_ _ | refine yT ?_ | refine yR ?_ _)); exact BK655.out⟩, ⟨by repeat (first | (with_reducible first | exact HB.out | apply yO | apply yN | apply yP | refine yQ ?_ GE655.out) | exact HB.out)⟩⟩
        case round =>
         clear H'
         try clear c1
         try clear p2
         try clear c3
         try clear c3b0
         try clear c3b1
         try clear c4
         try clear c4b0
         try clear c4b1
         try clear p6
         try clear q6
         try clear hx6
         try clear c7
         try clear c9
         try clear c9b0
         try clear c10
         try clear c10b0
         try clear c11
         try clear c11b0
         try clear hcz13_0
         try clear hcz13_1
         try clear hcz13_2
         try clear hcz13_3
         try clear hcz6_0
         try clear hcz6_1
         try clear hcz6_2
         try clear hcz6_3
         try clear hfz13_0
         try clear hfz13_1
         try clear hfz13_2
         try clear hfz13_3
         try clear hfz6_0
         try clear hfz6_1
         try clear hfz6_2
         try clear hfz6_3
         try clear hx659_0
         try clear p2
         try clear p659
         try clear q659
         obtain ⟨x5_2, x26_2, rfl, HA, HK2, HO_5, HO_24, BK655, HB⟩ := hrel
         cases gk with
         | zero => exact absurd HA.out (by simp [impl_Relation_numbers.l1])
         | succ k2 =>
          have H := HA.out
          clear HA
          simp only [impl_Relation_numbers.l1] at H
          by_cases c16 : x26_2 < (t660.length : Int)
          ·rw [if_pos c16] at H
           have c16b0 : decide (x26_2 < (t660.length : Int)) = true := zH c16
           clear c16
           by_cases c17 : 0 ≤ x26_2
           ·rw [if_pos c17] at H
            have c17b0 : decide (0 ≤ x26_2) = true := zH c17
            clear c17
            by_cases c18 : x26_2 < (t660.length : Int)
            ·rw [if_pos c18] at H
             have c18b0 : decide (x26_2 < (t660.length : Int)) = true := zH c18
             clear c18
             by_cases c19 : x26_2 < (x5_2.length : Int)
             ·rw [if_pos c19] at H
              have c19b0 : decide (x26_2 < (x5_2.length : Int)) = true := zH c19
              clear c19
              obtain ⟨y665, hy665⟩ : ∃ y_ : List Int, y_ = (x5_2.set (x26_2 : Int).toNat (wrap64 ((wrap64 ((rd x5_2 x26_2) * a0_0)) + (rd t660 x26_2)))) := ⟨_, rfl⟩
              replace H : (impl_Relation_numbers.l1 k2 y665 l1 (l1.length : Int) x15_1 t660 (t660.length : Int) (wrap64 (x26_2 + 1)) a0_0 a0_1 l0_2 l0_3) = some r := by first | (rw [hy665]; with_reducible exact H) | (have H2_ := (Option.bind_some _ _).symm.trans H; rw [hy665]; with_reducible exact H2_) | (have H2_ := (Option.bind_some _ _).symm.trans H; with_reducible exact H2_) | with_reducible exact H | (rw [hy665]; exact H) | exact H
              have Ny665 := yA hy665
              clear hy665
              have H' := yA H
              clear H
              have p663 : 0 ≤ (x26_2 : Int) := zG (by first | (with_reducible assumption) | assumption)
              have q663 : x26_2 < (t660.length : Int) := zG (by first | (with_reducible assumption) | assumption)
              obtain ⟨ad663, e663, hx663_0⟩ := Kd.at_int (zN HO_24.out).2.2 x26_2 p663 q663
              cases e663
              replace p663 := eq_true p663
              replace q663 := eq_true q663
              try go_wp2
              have n0_ := yA (yD HO_5.out)
              have n1_ := yA (yD HO_24.out)
              have n2_ := yA (yT BK655.out)
              have n3_ := yA (yP HB.out)
              clear HO_5
              clear HO_24
              clear BK655
              clear HB
              have HO_5 := n0_
              have HO_24 := n1_
              have BK655 := n2_
              have HB := n3_
              clear n0_ n1_ n2_ n3_
              obtain ⟨Ao22, co22, eo22⟩ := Kd.R_slice HO_5.out
              (first | subst eo22 | (injection eo22 with f1_ f2_ f3_; have f4_ := f1_.symm; have f5_ := f3_.symm; clear f1_ f2_ f3_; subst f4_; subst f5_))
              have p664 : 0 ≤ (x26_2 : Int) := zG (by first | (with_reducible assumption) | assumption)
              have q664 : x26_2 < (x5_2.length : Int) := zG (by first | (with_reducible assumption) | assumption)
              obtain ⟨ad664, e664, hx664_0⟩ := Kd.at_int (zN HO_5.out).2.2 x26_2 p664 q664
              cases e664
              replace p664 := eq_true p664
              replace q664 := eq_true q664
              have p20 : 0 ≤ (x26_2 : Int) := zG (by first | (with_reducible assumption) | assumption)
              have q20 : (x26_2 : Int) < ((x5_2.length : Int) : Int) := zG (by first | (with_reducible assumption) | assumption)
              obtain ⟨go20, co20, eo20, gb20, gl20, cl20, HG20⟩ := Kd.R_form HO_5.out (by omega)
              (first | cases eo20 | (injection eo20 with ea_ en_ ec_; (first | subst ea_ | (injection ea_ with ea_; subst ea_)); subst ec_; clear en_))
              have GB20 := yA gb20
              have GG20 := yA HG20
              clear gb20 gl20 HG20
              (first | simp only [add_plain] at hx664_0 | skip)
              obtain ⟨hx20_0, hf20_0⟩ := Kd.R_celln 0 HO_5.out (x26_2 : Int) p20 q20
              replace p20 := eq_true p20
              replace q20 := eq_true q20
              have HP23 := Kd.R_putn HO_5.out (x26_2 : Int) (wrap64 ((wrap64 ((rd x5_2 x26_2) * a0_0)) + (rd t660 x26_2)))
              rw [← Ny665.out] at HP23
              have HQ23 := yA HP23
              clear HP23
              refine start_ (n := 13) (S := fun w' => w'.cell? ⟨gb655, 0, none⟩ = some (.int .i64 a0_0) ∧ w'.cell? ⟨gb655, 1, none⟩ = some (.int .i64 a0_1) ∧ w'.cell? ⟨gb655, 2, none⟩ = some (.slice A0_2 l0_2.length c0_2) ∧ w'.cell? ⟨gb655, 3, none⟩ = some (.slice A0_3 l0_3.length c0_3) ∧ w'.cell? ⟨go20, (x26_2).toNat, none⟩ = some (.int .i64 (rd x5_2 x26_2))) (ds := [12]) #[false, false, false, false, false, false, false, false, false, false, false, false, false] (by kernel_rfl) rfl rfl ⟨(yV BK655.out 0).trans rfl, (yV BK655.out 1).trans rfl, (yV BK655.out 2).trans rfl, (yV BK655.out 3).trans rfl, hx664_0⟩ (fun hHeld => ?_); refine with_tabW impl_Relation_numbers.tab8 impl_Relation_numbers.bits8 (fun HT_ HW_ => ?_)
              generalize wr.drew = w21 at HO_5 HO_24 BK655 HB GG20 HQ23 hf20_0 hx20_0 hx664_0 hHeld ⊢
              refine pure_ (i := 0) (N := some 31) (v := ?_) (a' := ?_) #[true, false, false, false, false, false, false, false, false, false, false, false, false] rfl rfl (any_of HT_.out (by kernel_rfl)) (fun _ _ _ h => h) (Or.inl ⟨by rfl, ?_⟩) ?_ ?_
              rotate_left
              ·intro w'
               go_simp
               with_reducible rfl
              rotate_left
              ·simp only [Act.put, zA, zB, zC, i64_w, i32_w]
               rfl
              refine pure_ (i := 1) (N := some 32) (v := ?_) (a' := ?_) #[true, true, false, false, false, false, false, false, false, false, false, false, false] rfl rfl (any_of HT_.out (by kernel_rfl)) (fun _ _ _ h => h) (Or.inl ⟨by rfl, ?_⟩) ?_ ?_
              rotate_left
              ·intro w'
               go_simp
               with_reducible rfl
              rotate_left
              ·simp only [Act.put, zA, zB, zC, i64_w, i32_w]
               rfl
              refine pure_ (i := 2) (N := some 33) (v := ?_) (a' := ?_) #[true, true, true, false, false, false, false, false, false, false, false, false, false] rfl rfl (any_of HT_.out (by kernel_rfl)) (fun _ _ _ h => h) (Or.inl ⟨by rfl, ?_⟩) ?_ ?_
              rotate_left
              ·intro w'
               go_simp
               with_reducible rfl
              rotate_left
              ·simp only [Act.put, zA, zB, zC, i64_w, i32_w]
               rfl
              refine pure_ (i := 3) (N := some 34) (v := ?_) (a' := ?_) #[true, true, true, true, false, false, false, false, false, false, false, false, false] rfl rfl (any_of HT_.out (by kernel_rfl)) (fun _ _ _ h => h) (Or.inl ⟨by rfl, ?_⟩) ?_ ?_
              rotate_left
              ·intro w'
               go_simp
               with_reducible rfl
              rotate_left
              ·simp only [Act.put, zA, zB, zC, i64_w, i32_w]
               rfl
              refine pure_ (i := 4) (N := some 35) (v := ?_) (a' := ?_) #[true, true, true, true, true, false, false, false, false, false, false, false, false] rfl rfl (any_of HT_.out (by kernel_rfl)) (fun _ _ _ h => h) (Or.inl ⟨by rfl, ?_⟩) ?_ ?_
              rotate_left
              ·intro w'
               go_simp
               with_reducible rfl
              rotate_left
              ·simp only [Act.put, zA, zB, zC, i64_w, i32_w]
               rfl
              refine pure_ (i := 6) (N := some 37) (v := ?_) (a' := ?_) #[true, true, true, true, true, false, true, false, false, false, false, false, false] rfl rfl (any_of HT_.out (by kernel_rfl)) (fun _ _ _ h => h) (Or.inl ⟨by rfl, ?_⟩) ?_ ?_
              rotate_left
              ·intro w'
               go_simp
               with_reducible rfl
              rotate_left
              ·simp only [Act.put, zA, zB, zC, i64_w, i32_w]
               rfl
              refine pure_ (i := 9) (N := some 40) (v := ?_) (a' := ?_) #[true, true, true, true, true, false, true, false, false, true, false, false, false] rfl rfl (any_of HT_.out (by kernel_rfl)) (fun _ _ _ h => h) (Or.inl ⟨by rfl, ?_⟩) ?_ ?_
              rotate_left
              ·intro w'
               go_simp
               with_reducible rfl
              rotate_left
              ·simp only [Act.put, zA, zB, zC, i64_w, i32_w]
               rfl
              refine take_ (i := 5) (N := some 36) (v := ?_) (a' := ?_) #[true, true, true, true, true, true, true, false, false, true, false, false, false] rfl rfl (take_ofW HT_.out HW_.out (by kernel_rfl)) (fun _ _ _ h => h) (Or.inl ⟨by rfl, ?_⟩) hHeld ?_ ?_
              rotate_left
              ·rintro w' ⟨s0, s1, s2, s3, s4⟩
               go_simp
               with_reducible rfl
              rotate_left
              ·simp only [Act.put, zA, zB, zC, i64_w, i32_w]
               rfl
              refine take_ (i := 7) (N := some 38) (v := ?_) (a' := ?_) #[true, true, true, true, true, true, true, true, false, true, false, false, false] rfl rfl (take_ofW HT_.out HW_.out (by kernel_rfl)) (fun _ _ _ h => h) (Or.inl ⟨by rfl, ?_⟩) hHeld ?_ ?_
              rotate_left
              ·rintro w' ⟨s0, s1, s2, s3, s4⟩
               go_simp
               with_reducible rfl
              rotate_left
              ·simp only [Act.put, zA, zB, zC, i64_w, i32_w]
               rfl
              refine pure_ (i := 8) (N := some 39) (v := ?_) (a' := ?_) #[true, true, true, true, true, true, true, true, true, true, false, false, false] rfl rfl (any_of HT_.out (by kernel_rfl)) (fun _ _ _ h => h) (Or.inl ⟨by rfl, ?_⟩) ?_ ?_
              rotate_left
              ·intro w'
               go_simp
               with_reducible rfl
              rotate_left
              ·simp only [Act.put, zA, zB, zC, i64_w, i32_w]
               rfl
              refine pure_ (i := 10) (N := some 41) (v := ?_) (a' := ?_) #[true, true, true, true, true, true, true, true, true, true, true, false, false] rfl rfl (any_of HT_.out (by kernel_rfl)) (fun _ _ _ h => h) (Or.inl ⟨by rfl, ?_⟩) ?_ ?_
              rotate_left
              ·intro w'
               go_simp
               with_reducible rfl
              rotate_left
              ·simp only [Act.put, zA, zB, zC, i64_w, i32_w]
               rfl
              refine pure_ (i := 11) (N := some 42) (v := ?_) (a' := ?_) #[true, true, true, true, true, true, true, true, true, true, true, true, false] rfl rfl (any_of HT_.out (by kernel_rfl)) (fun _ _ _ h => h) (Or.inl ⟨by rfl, ?_⟩) ?_ ?_
              rotate_left
              ·intro w'
               go_simp
               with_reducible rfl
              rotate_left
              ·simp only [Act.put, zA, zB, zC, i64_w, i32_w]
               rfl
              refine last_ (i := 12) (N := none) #[true, true, true, true, true, true, true, true, true, true, true, true, true] rfl rfl (one_of HT_.out (by kernel_rfl)) (by decide) (fun K hK => ?_)
              refine skip_ (w1 := ?_) (by rfl) rfl ?_ ?_
              rotate_left
              ·go_simp
               rfl
              refine hK.out _ _ ?_
              clear hK K
              refine done_ (done_of HT_.out (by kernel_rfl)) ?_
              try go_wp2
              go_roundg k2
              case measure => have := HK1.out; have := HK2.out; omega
              case rel => exact ⟨(y665), (wrap64 (x26_2 + 1)), (by first | rfl | (simp; done) | (simp [*]; done)), H', ⟨by have := HK1.out; have := HK2.out; omega⟩, ⟨by (with_reducible repeat (first | apply yB | apply yC | apply yD)); exact HQ23.out⟩, ⟨by (with_reducible repeat (first | apply yB | apply yC | apply yD)); exact zP (zQ (p := ⟨go20, (x26_2 : Int).toNat, none⟩) (zP HO_24.out (fun k_ hk => (⟨hk, fun e_ => hk (by rw [e_]; rfl)⟩ : _ ∧ k_ ≠ go20))) (fun _ hk => hk.2) (.int .i64 (wrap64 ((wrap64 ((rd x5_2 x26_2) * a0_0)) + (rd t660 x26_2))))) (fun _ hk => hk.1)⟩, ⟨by (with_reducible repeat (first | refine yS ?_ _ | refine yT ?_ | refine yR ?_ _)); refine blk_far ?_ (by have h_ := zW HO_5.out BK655.out (by decide); intro e_; exact h_ (by rw [e_]; rfl)) _; (with_reducible repeat (first | refine yS ?_ _ | refine yT ?_ | refine yR ?_ _)); exact BK655.out⟩, ⟨by repeat (first | (with_reducible first | exact HB.out | apply yO | apply yN | apply yP | refine yQ ?_ GB20.out | refine yQ ?_ GE655.out) | exact HB.out)⟩⟩
             ·rw [if_neg c19] at H
              exact absurd H (by simp)
            ·rw [if_neg c18] at H
             exact absurd H (by simp)
           ·rw [if_neg c17] at H
            exact absurd H (by simp)
          ·rw [if_neg c16] at H
           have c16b0 : decide (x26_2 < (t660.length : Int)) = false := decide_eq_false c16
           clear c16
           have H' := yA H
           clear H
           go_wp2
           go_roundg k2
           case measure => have := HK1.out; have := HK2.out; omega
           case rel => exact ⟨(x5_2), (wrap64 (x15_1 + 1)), (by first | rfl | (simp; done) | (simp [*]; done)), H', ⟨by have := HK1.out; have := HK2.out; omega⟩, ⟨by (with_reducible repeat (first | apply yB | apply yC | apply yD)); exact zP HO_5.out (fun _ hk => trivial)⟩, ⟨by (with_reducible repeat (first | refine yS ?_ _ | refine yT ?_ | refine yR ?_ _)); exact BK655.out⟩, ⟨by repeat (first | (with_reducible first | exact HB.out | apply yO | apply yN | apply yP | refine yQ ?_ GE655.out) | exact HB.out)⟩⟩
       ·rw [if_neg c11] at H
        exact absurd H (by simp)
      ·rw [if_neg c10] at H
       exact absurd H (by simp)
     ·rw [if_neg c9] at H
      have c9b0 : decide (x15_1 < (l1.length : Int)) = false := decide_eq_false c9
      clear c9
      obtain rfl := zU H
      go_wp2
      go_ret
      exact ⟨_, by first | rfl | (simp [errW_none, errW_some] <;> rfl) | (simp [*, errW_none, errW_some] <;> rfl), by (with_reducible repeat (first | apply yB | apply yC | apply yD)); exact HO_5.out, by repeat (first | (with_reducible first | exact HB.out | apply yO | apply yN | apply yP | refine yQ ?_ GE655.out) | exact HB.out)⟩
  ·rw [if_neg c4] at H
   exact absurd H (by simp)
 ·rw [if_neg c3] at H
  exact absurd H (by simp)

end Go.Proofs.Ytgopcliohchkmaa.Q
