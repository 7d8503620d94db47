-- written by a program of this session
-- squeezed
-- compact
-- shrunk
import Derived.Test.YtmkeicahnnlalaaQ0
import Derived.Test.YtmkeicahnnlalaaQ86
namespace Go.Proofs.Ytmkeicahnnlalaa.Q
open Go.RowKit Go.Proofs.YtmkeicahnnlalaaW.PrintWords Go.Proofs.YtmkeicahnnlalaaW.PrintLast Go.Proofs.YtmkeicahnnlalaaW.PrintMore
set_option linter.unusedVariables false
set_option linter.unusedSimpArgs false

/-! ### impl_IsFormula: function 98 -/
mutual
def impl_IsFormula.j0 : Nat → List (S71) → Bool → Option (Bool)
 | 0, _, _ => none
 | k + 1, x0, x19 => if x19 = true then (some false) else (if 0 ≤ (x0.length : Int) then (if ((x0.length : Int) : Int).toNat ≤ 281474976710656 then (impl_IsFormula.l0 k x0 (List.replicate ((x0.length : Int) : Int).toNat false) x0 (x0.length : Int) 0) else (none)) else (none))
def impl_IsFormula.l0 : Nat → List (S71) → List Bool → List (S71) → Int → Int → Option (Bool)
 | 0, _, _, _, _, _ => none
 | k + 1, x0, x3, x23, x24, x25 => if x25 < x24 then (if 0 ≤ x25 then (if x25 < (x23.length : Int) then ((impl_Node_kids.f k ((rd_T71 x23 x25).f0) ((rd_T71 x23 x25).f1) ((rd_T71 x23 x25).f2) ((rd_T71 x23 x25).f3)).bind fun bt1031 => (if bt1031.2 = true then (impl_IsFormula.l1 k x0 x3 x25 x23 x24 x25 bt1031.1 (bt1031.1.length : Int) 0) else (some false))) else (none)) else (none)) else (if 0 ≤ (wrap64 ((x0.length : Int) - 1)) then (if (wrap64 ((x0.length : Int) - 1)) ≤ (x3.length : Int) then ((some (x3.take ((wrap64 ((x0.length : Int) - 1)) : Int).toNat : List Bool)).bind fun y1038 => (impl_IsFormula.l2 k y1038 (y1038.length : Int) 0)) else (none)) else (none))
def impl_IsFormula.l1 : Nat → List (S71) → List Bool → Int → List (S71) → Int → Int → List Int → Int → Int → Option (Bool)
 | 0, _, _, _, _, _, _, _, _, _ => none
 | k + 1, x0, x3, x4, x23, x24, x25, x37, x38, x39 => if x39 < x38 then (if 0 ≤ x39 then (if x39 < (x37.length : Int) then (if (rd x37 x39) < 0 then (some false) else (if (rd x37 x39) ≥ x4 then (some false) else (if 0 ≤ (rd x37 x39) then (if (rd x37 x39) < (x3.length : Int) then (if rdOf false x3 (rd x37 x39) = true then (some false) else (impl_IsFormula.l1 k x0 (x3.set ((rd x37 x39) : Int).toNat true) x4 x23 x24 x25 x37 x38 (wrap64 (x39 + 1)))) else (none)) else (none)))) else (none)) else (none)) else (impl_IsFormula.l0 k x0 x3 x23 x24 (wrap64 (x25 + 1)))
def impl_IsFormula.l2 : Nat → List Bool → Int → Int → Option (Bool)
 | 0, _, _, _ => none
 | k + 1, x65, x66, x67 => if x67 < x66 then (if 0 ≤ x67 then (if x67 < (x65.length : Int) then (if rdOf false x65 x67 = true then (impl_IsFormula.l2 k x65 x66 (wrap64 (x67 + 1))) else (some false)) else (none)) else (none)) else (some true)
end
def impl_IsFormula.f (k : Nat) (l0 : List (S71)) : Option (Bool) := if (l0.length : Int) < 1 then (impl_IsFormula.j0 k l0 true) else (impl_IsFormula.j0 k l0 (decide ((l0.length : Int) > 40)))
theorem impl_IsFormula.mono_l : ∀ k, (∀ y0 y1, LeO (impl_IsFormula.j0 k y0 y1) (impl_IsFormula.j0 (k + 1) y0 y1)) ∧ (∀ y0 y1 y2 y3 y4, LeO (impl_IsFormula.l0 k y0 y1 y2 y3 y4) (impl_IsFormula.l0 (k + 1) y0 y1 y2 y3 y4)) ∧ (∀ y0 y1 y2 y3 y4 y5 y6 y7 y8, LeO (impl_IsFormula.l1 k y0 y1 y2 y3 y4 y5 y6 y7 y8) (impl_IsFormula.l1 (k + 1) y0 y1 y2 y3 y4 y5 y6 y7 y8)) ∧ (∀ y0 y1 y2, LeO (impl_IsFormula.l2 k y0 y1 y2) (impl_IsFormula.l2 (k + 1) y0 y1 y2))
 | 0 => ⟨fun _ _ r h => by simp [impl_IsFormula.j0] at h, fun _ _ _ _ _ r h => by simp [impl_IsFormula.l0] at h, fun _ _ _ _ _ _ _ _ _ r h => by simp [impl_IsFormula.l1] at h, fun _ _ _ r h => by simp [impl_IsFormula.l2] at h⟩
 | k + 1 => by
  obtain ⟨ih0, ih1, ih2, ih3⟩ := impl_IsFormula.mono_l k
  refine ⟨?_, ?_, ?_, ?_⟩ <;> intros <;> first | unfold impl_IsFormula.j0 | unfold impl_IsFormula.l0 | unfold impl_IsFormula.l1 | unfold impl_IsFormula.l2
  all_goals repeat' (with_reducible first | exact ih0 _ _ | exact ih1 _ _ _ _ _ | exact ih2 _ _ _ _ _ _ _ _ _ | exact ih3 _ _ _ | exact impl_Node_kids.mono _ _ _ _ _ | exact LeO.refl _ | exact LeO.none _ | refine LeO.ite ?_ ?_ | refine LeO.bind ?_ fun _ => ?_)
theorem impl_IsFormula.mono : ∀ a0 k, LeO (impl_IsFormula.f k a0) (impl_IsFormula.f (k + 1) a0) := by
 intro a0 k
 obtain ⟨ih0, ih1, ih2, ih3⟩ := impl_IsFormula.mono_l k
 unfold impl_IsFormula.f
 repeat' (with_reducible first | exact ih0 _ _ | exact ih1 _ _ _ _ _ | exact ih2 _ _ _ _ _ _ _ _ _ | exact ih3 _ _ _ | exact impl_Node_kids.mono _ _ _ _ _ | exact LeO.refl _ | exact LeO.none _ | refine LeO.ite ?_ ?_ | refine LeO.bind ?_ fun _ => ?_)
set_option maxHeartbeats 8000000 in
set_option maxRecDepth 100000 in
theorem impl_IsFormula.calls (k : Nat) (A0 : Option Addr) (c0 : Nat) (l0 : List (S71)) (r : Bool) (w : World) (hr0 : Kd.C k71 w A0 l0.length l0) (hc0 : l0.length ≤ c0) (h : impl_IsFormula.f k l0 = some r) :
  Calls Try.prog 98 #[.slice A0 l0.length c0] w fun e w' => e = .returned (.bool r) ∧ Below w.heap.size w w' := by
 have hu71 := Try.underlying71
 have HR0 := yA hr0
 have HC0 := yA hc0
 clear hr0 hc0
 have HB := yA (zV w.heap.size w)
 have H : (if (l0.length : Int) < 1 then (impl_IsFormula.j0 k l0 true) else (impl_IsFormula.j0 k l0 (decide ((l0.length : Int) > 40)))) = some r := h
 clear h
 have HC2 := yA H
 clear H
 go_enter Try.func98, Try.ntmps98
 go_upto_region 1 with (fail)
 go_cut [19] (fun v19 wc => ∃ (kq : Nat) (x19_1 : Bool), v19 = .bool x19_1 ∧ Aside0 (impl_IsFormula.j0 kq l0 x19_1 = some r) ∧ Aside0 (kq ≤ k) ∧ Aside0 (Below w.heap.size w wc))
 case first =>
  have H := HC2.out
  clear HC2
  by_cases c3 : (l0.length : Int) < 1
  ·rw [if_pos c3] at H
   have c3b0 : decide ((l0.length : Int) < 1) = true := zH c3
   have c3b1 : decide (l0.length < 1) = true := zH (by omega)
   clear c3
   (first | rw [c3b0] | (simp only [i64_w, i32_w]; rw [c3b0]) | skip)
   have H' := yA H
   clear H
   go_wp2
   go_meet
   case rel => exact ⟨_, (true), (by first | rfl | (simp; done) | (simp [*]; done)), H', ⟨by first | omega | exact zT _⟩, ⟨mB HB.out⟩⟩
  ·rw [if_neg c3] at H
   have c3b0 : decide ((l0.length : Int) < 1) = false := decide_eq_false c3
   have c3b1 : decide (l0.length < 1) = false := decide_eq_false (by omega)
   clear c3
   (first | rw [c3b0] | (simp only [i64_w, i32_w]; rw [c3b0]) | skip)
   have H' := yA H
   clear H
   go_wp2
   go_meet
   case rel => exact ⟨_, (decide ((l0.length : Int) > 40)), (by first | rfl | (simp; done) | (simp [*]; done)), H', ⟨by first | omega | exact zT _⟩, ⟨mB HB.out⟩⟩
 case rest =>
  clear HC2
  (try clear p2);(try clear c3);(try clear c3b0);(try clear c3b1)
  obtain ⟨kq, x19_1, rfl, HA, HJ1, HB⟩ := hcut
  cases kq with
  | zero => exact absurd HA.out (by simp [impl_IsFormula.j0])
  | succ kj1 =>
   have H := HA.out
   clear HA
   simp only [impl_IsFormula.j0] at H
   by_cases c4 : x19_1 = true
   ·subst c4
    replace H := iT H
    obtain rfl := zU H
    go_wp2
    go_ret
    exact ⟨by first | rfl | (simp [errW_none, errW_some] <;> rfl) | (simp [*, errW_none, errW_some] <;> rfl), by repeat (first | (with_reducible first | exact HB.out | apply yO | apply yN | apply yP) | exact HB.out)⟩
   ·replace c4 := Bool.eq_false_iff.mpr c4
    subst c4
    replace H := iF H
    obtain ⟨c5, H⟩ := iP H
    have c5b0 := eq_true c5
    have c5b1 : decide (0 ≤ (l0.length : Int)) = true := zH c5
    clear c5
    obtain ⟨c6, H⟩ := iP H
    have c6b0 := eq_true c6
    have c6b1 : decide (((l0.length : Int) : Int).toNat ≤ 281474976710656) = true := zH c6
    clear c6
    (first | ((with_reducible replace H := bS H); obtain ⟨y1026, Ny1026, H⟩ := H) | (obtain ⟨y1026, Ny1026⟩ : ∃ y_ : List Bool, y_ = (List.replicate ((l0.length : Int) : Int).toNat false) := ⟨_, rfl⟩; rw [← Ny1026] at H; replace Ny1026 := yA Ny1026))
    have H' := yA H
    clear H
    go_wp2_with (first | ((with_reducible refine gate_dst (N := 22) rfl ?_); refine Kd.R_make Kd.bool _ 4 rfl (N := 22) rfl 27 _ _ rfl (l0.length : Int) rfl rfl Try.underlying27 (.bool false) 1 info4 rfl (by decide) (by omega) false (ok := fun _ => True) (okp := fun _ => True) rfl (fun _ hk => hk) trivial (zG (by assumption)) (Nat.le_trans (Nat.mul_le_mul_right _ (zG (by assumption) : (l0.length : Int).toNat ≤ 281474976710656)) (by omega)) (zV _ _) (zT _) ?_; intro v1027 w7 ho8 hb hg_ hnew_; clear hg_ hnew_; (first | rw [← Ny1026.out] at ho8 | (simp only [Int.reduceToNat] at ho8; rw [← Ny1026.out] at ho8)); have HO1028 := yA (Kd.R_lower ho8 (yX (mB HB.out))); replace HB := yA (zD (mB HB.out) hb); clear hb ho8))
    go_loopg [25] kj1 (fun kq v25 w' => ∃ (x3_2 : List Bool) (x25_2 : Int), v25 = .int .i64 x25_2 ∧ Aside0 (impl_IsFormula.l0 kq l0 x3_2 l0 (l0.length : Int) x25_2 = some r) ∧ Aside0 (kq ≤ kj1) ∧ Aside0 (Kd.R Kd.bool 4 w' w.heap.size (fun _ => True) v1027 x3_2) ∧ Aside0 (Below w.heap.size w w'))
    case atStart => exact ⟨(y1026), (0), (by first | rfl | (simp; done) | (simp [*]; done)), H', ⟨zT _⟩, ⟨mR HO1028.out⟩, ⟨mB HB.out⟩⟩
    case round =>
     clear H'
     (try clear p2);(try clear c3);(try clear c3b0);(try clear c3b1);(try clear c4);(try clear c5);(try clear c5b0);(try clear c5b1);(try clear c6);(try clear c6b0);(try clear c6b1);(try clear p2)
     obtain ⟨x3_2, x25_2, rfl, HA, HK2, HO_3, HB⟩ := hrel
     cases gk with
     | zero => exact absurd HA.out (by simp [impl_IsFormula.l0])
     | succ k2 =>
      have H := HA.out
      clear HA
      simp only [impl_IsFormula.l0] at H
      by_cases c9 : x25_2 < (l0.length : Int)
      ·rw [if_pos c9] at H
       have c9b0 : decide (x25_2 < (l0.length : Int)) = true := zH c9
       clear c9
       obtain ⟨c10, H⟩ := iP H
       have c10b0 : decide (0 ≤ x25_2) = true := zH c10
       clear c10
       obtain ⟨c11, H⟩ := iP H
       have c11b0 : decide (x25_2 < (l0.length : Int)) = true := zH c11
       clear c11
       replace H := Option.bind_eq_some_iff.mp H
       obtain ⟨⟨t1031, t1034⟩, A120, H⟩ := H
       replace H : (if t1034 = true then (impl_IsFormula.l1 k2 l0 x3_2 x25_2 l0 (l0.length : Int) x25_2 t1031 (t1031.length : Int) 0) else (some false)) = some r := H
       have A12 := yA A120
       clear A120
       by_cases c13 : t1034 = true
       ·subst c13
        replace H := iT H
        have H' := yA H
        clear H
        have p1029 : 0 ≤ (x25_2 : Int) := zG (by assumption)
        have q1029 : x25_2 < (l0.length : Int) := zG (by assumption)
        obtain ⟨ad1029, e1029, hx1029_0, hx1029_1, hx1029_2, hx1029_3⟩ := at_T71 HR0.out x25_2 p1029 q1029
        cases e1029
        try replace hx1029_0 := (HB.out.cell (zE w _ hx1029_0)).trans hx1029_0
        try replace hx1029_1 := (HB.out.cell (zE w _ hx1029_1)).trans hx1029_1
        try replace hx1029_2 := (HB.out.cell (zE w _ hx1029_2)).trans hx1029_2
        try replace hx1029_3 := (HB.out.cell (zE w _ hx1029_3)).trans hx1029_3
        replace p1029 := eq_true p1029
        replace q1029 := eq_true q1029
        go_wp2_with (first | ((with_reducible refine gate_dst (N := 5) rfl ?_); refine box_event ?hg (N := 5) ?hd (cs := #[.int .i64 0, .int .i64 0, .int .i64 0, .int .i64 0]) (t := 71) ?hr ?_; (case hd => rfl); (case hg => rfl); (case hr => first | (go_simp; done) | (go_simp; rfl)); intro gb1030 hg w14 hbox hb; replace HO_3 := yA (yK (mR HO_3.out) hb); have BK1030 := yA (hbox); have GW1030 := yA ((by rw [hg]; exact (yX (mB HB.out)) : w.heap.size ≤ gb1030)); have GE1030 := yA ((by rw [hg]; exact (yX (mB HB.out)) : w.heap.size ≤ gb1030)); replace HB := yA (zD (mB HB.out) hb); clear hb hbox hg; have hcz15_0 : w14.cell? ⟨gb1030, 0, none⟩ = some (.int .i64 0) := (yV BK1030.out 0).trans rfl; have hcz15_1 : w14.cell? ⟨gb1030, 1, none⟩ = some (.int .i64 0) := (yV BK1030.out 1).trans rfl; have hcz15_2 : w14.cell? ⟨gb1030, 2, none⟩ = some (.int .i64 0) := (yV BK1030.out 2).trans rfl; have hcz15_3 : w14.cell? ⟨gb1030, 3, none⟩ = some (.int .i64 0) := (yV BK1030.out 3).trans rfl; have hfz15_0 := yW BK1030.out 0; have hfz15_1 := yW BK1030.out 1; have hfz15_2 := yW BK1030.out 2; have hfz15_3 := yW BK1030.out 3) | ((with_reducible refine zS (f := 121) rfl ?_); refine goesL_ (some 32) rfl rfl Try.func121 (by kernel_rfl) rfl #[.agg #[.int .i64 ((rd_T71 l0 x25_2).f0), .int .i64 ((rd_T71 l0 x25_2).f1), .int .i64 ((rd_T71 l0 x25_2).f2), .int .i64 ((rd_T71 l0 x25_2).f3)]] rfl (by (try simp only [zI, zJ, zK]); first | done | rfl | (simp only [zL, zM]; rfl)) ?_; (with_reducible refine (impl_Node_kids.calls k2 ((rd_T71 l0 x25_2).f0) ((rd_T71 l0 x25_2).f1) ((rd_T71 l0 x25_2).f2) ((rd_T71 l0 x25_2).f3) t1031 true _ A12.out).mono ?_); rintro e w16 ⟨v1032, rfl, ho0, hb⟩; refine ⟨_, rfl, ?_⟩; replace HO_3 := yA (yK (mR (zP (zQ (p := ⟨gb1030, 3, none⟩) (zQ (p := ⟨gb1030, 2, none⟩) (zQ (p := ⟨gb1030, 1, none⟩) (zQ (p := ⟨gb1030, 0, none⟩) (zR HO_3.out BK1030.out (by decide)) (fun _ hk => hk.2) (.int .i64 ((rd_T71 l0 x25_2).f0))) (fun _ hk => hk.2) (.int .i64 ((rd_T71 l0 x25_2).f1))) (fun _ hk => hk.2) (.int .i64 ((rd_T71 l0 x25_2).f2))) (fun _ hk => hk.2) (.int .i64 ((rd_T71 l0 x25_2).f3))) (fun _ h_ => h_.1))) hb); have HO1033 := yA (Kd.R_lower ho0 (yX (by with_reducible repeat first | exact HB.out | apply yO | apply yN | apply yP | refine yQ ?_ GE1030.out))); replace BK1030 := yA (yU (g := gb1030) (o := .cells #[.int .i64 ((rd_T71 l0 x25_2).f0), .int .i64 ((rd_T71 l0 x25_2).f1), .int .i64 ((rd_T71 l0 x25_2).f2), .int .i64 ((rd_T71 l0 x25_2).f3)] 71 (0, 0)) (by (with_reducible repeat (first | refine yS ?_ _ | refine yT ?_ | refine yR ?_ _)); refine blk_put (cs := #[.int .i64 ((rd_T71 l0 x25_2).f0), .int .i64 ((rd_T71 l0 x25_2).f1), .int .i64 ((rd_T71 l0 x25_2).f2), .int .i64 0]) ?_ 3 _ rfl; (with_reducible repeat (first | refine yS ?_ _ | refine yT ?_ | refine yR ?_ _)); refine blk_put (cs := #[.int .i64 ((rd_T71 l0 x25_2).f0), .int .i64 ((rd_T71 l0 x25_2).f1), .int .i64 0, .int .i64 0]) ?_ 2 _ rfl; (with_reducible repeat (first | refine yS ?_ _ | refine yT ?_ | refine yR ?_ _)); refine blk_put (cs := #[.int .i64 ((rd_T71 l0 x25_2).f0), .int .i64 0, .int .i64 0, .int .i64 0]) ?_ 1 _ rfl; (with_reducible repeat (first | refine yS ?_ _ | refine yT ?_ | refine yR ?_ _)); refine blk_put (cs := #[.int .i64 0, .int .i64 0, .int .i64 0, .int .i64 0]) ?_ 0 _ rfl; (with_reducible repeat (first | refine yS ?_ _ | refine yT ?_ | refine yR ?_ _)); exact BK1030.out) hb); replace HB := yA (zD (by with_reducible repeat first | exact HB.out | apply yO | apply yN | apply yP | refine yQ ?_ GE1030.out) hb); (try clear hb); (try clear hb2); (try clear hk); (try clear hi); (try clear ho0); obtain ⟨Ao17, co17, eo17⟩ := Kd.R_slice HO1033.out; subst eo17))
        go_loopg [39] k2 (fun kq v39 w' => ∃ (x3_3 : List Bool) (x39_3 : Int), v39 = .int .i64 x39_3 ∧ Aside0 (impl_IsFormula.l1 kq l0 x3_3 x25_2 l0 (l0.length : Int) x25_2 t1031 (t1031.length : Int) x39_3 = some r) ∧ Aside0 (kq ≤ k2) ∧ Aside0 (Kd.R Kd.bool 4 w' w.heap.size (fun _ => True) v1027 x3_3) ∧ Aside0 (Kd.R (Kd.int .i64) 3 w' w.heap.size (fun _ => True) (.slice Ao17 t1031.length co17) t1031) ∧ Aside0 (w'.heap[gb1030]? = some (.cells #[.int .i64 ((rd_T71 l0 x25_2).f0), .int .i64 ((rd_T71 l0 x25_2).f1), .int .i64 ((rd_T71 l0 x25_2).f2), .int .i64 ((rd_T71 l0 x25_2).f3)] 71 (0, 0))) ∧ Aside0 (Below w.heap.size w w'))
        case atStart => exact ⟨(x3_2), (0), (by first | rfl | (simp; done) | (simp [*]; done)), H', ⟨zT _⟩, ⟨mR HO_3.out⟩, ⟨mR HO1033.out⟩, ⟨mK BK1030.out⟩, ⟨by repeat (first | (with_reducible first | exact HB.out | apply yO | apply yN | apply yP | refine yQ ?_ GE1030.out) | exact HB.out)⟩⟩
        case round =>
         clear H'
         (try clear c1);(try clear p1);(try clear q1);(try clear hx1);(try clear p2);(try clear c3);(try clear c3b0);(try clear c3b1);(try clear c4);(try clear c5);(try clear c5b0);(try clear c5b1);(try clear c6);(try clear c6b0);(try clear c6b1);(try clear c9);(try clear c9b0);(try clear c10);(try clear c10b0);(try clear p10);(try clear q10);(try clear hx10);(try clear c11);(try clear c11b0);(try clear c12);(try clear c13);(try clear hcz15_0);(try clear hcz15_1);(try clear hcz15_2);(try clear hcz15_3);(try clear hfz15_0);(try clear hfz15_1);(try clear hfz15_2);(try clear hfz15_3);(try clear hx1029_0);(try clear hx1029_1);(try clear hx1029_2);(try clear hx1029_3);(try clear p1029);(try clear p2);(try clear q1029)
         obtain ⟨x3_3, x39_3, rfl, HA, HK3, HO_3, HO_37, BK1030, HB⟩ := hrel
         cases gk with
         | zero => exact absurd HA.out (by simp [impl_IsFormula.l1])
         | succ k3 =>
          have H := HA.out
          clear HA
          simp only [impl_IsFormula.l1] at H
          by_cases c18 : x39_3 < (t1031.length : Int)
          ·rw [if_pos c18] at H
           have c18b0 : decide (x39_3 < (t1031.length : Int)) = true := zH c18
           clear c18
           obtain ⟨c19, H⟩ := iP H
           have c19b0 : decide (0 ≤ x39_3) = true := zH c19
           clear c19
           obtain ⟨c20, H⟩ := iP H
           have c20b0 : decide (x39_3 < (t1031.length : Int)) = true := zH c20
           clear c20
           by_cases c21 : (rd t1031 x39_3) < 0
           ·rw [if_pos c21] at H
            have c21b0 : decide ((rd t1031 x39_3) < 0) = true := zH c21
            clear c21
            obtain rfl := zU H
            have p1035 : 0 ≤ (x39_3 : Int) := zG (by assumption)
            have q1035 : x39_3 < (t1031.length : Int) := zG (by assumption)
            obtain ⟨ad1035, e1035, hx1035_0⟩ := Kd.at_int (zN HO_37.out).2.2 x39_3 p1035 q1035
            cases e1035
            replace p1035 := eq_true p1035
            replace q1035 := eq_true q1035
            go_wp2
            go_ret
            exact ⟨by first | rfl | (simp [errW_none, errW_some] <;> rfl) | (simp [*, errW_none, errW_some] <;> rfl), by repeat (first | (with_reducible first | exact HB.out | apply yO | apply yN | apply yP | refine yQ ?_ GE1030.out) | exact HB.out)⟩
           ·rw [if_neg c21] at H
            have c21b0 : decide ((rd t1031 x39_3) < 0) = false := decide_eq_false c21
            clear c21
            by_cases c22 : (rd t1031 x39_3) ≥ x25_2
            ·rw [if_pos c22] at H
             have c22b0 : decide (x25_2 ≤ (rd t1031 x39_3)) = true := zH c22
             clear c22
             obtain rfl := zU H
             have p1035 : 0 ≤ (x39_3 : Int) := zG (by assumption)
             have q1035 : x39_3 < (t1031.length : Int) := zG (by assumption)
             obtain ⟨ad1035, e1035, hx1035_0⟩ := Kd.at_int (zN HO_37.out).2.2 x39_3 p1035 q1035
             cases e1035
             replace p1035 := eq_true p1035
             replace q1035 := eq_true q1035
             go_wp2
             go_ret
             exact ⟨by first | rfl | (simp [errW_none, errW_some] <;> rfl) | (simp [*, errW_none, errW_some] <;> rfl), by repeat (first | (with_reducible first | exact HB.out | apply yO | apply yN | apply yP | refine yQ ?_ GE1030.out) | exact HB.out)⟩
            ·rw [if_neg c22] at H
             have c22b0 : decide (x25_2 ≤ (rd t1031 x39_3)) = false := decide_eq_false c22
             clear c22
             obtain ⟨c23, H⟩ := iP H
             have c23b0 : decide (0 ≤ (rd t1031 x39_3)) = true := zH c23
             clear c23
             obtain ⟨c24, H⟩ := iP H
             have c24b0 : decide ((rd t1031 x39_3) < (x3_3.length : Int)) = true := zH c24
             clear c24
             obtain ⟨bq25, hbq25⟩ : ∃ b_ : Bool, b_ = (rdOf false x3_3 (rd t1031 x39_3)) := ⟨_, rfl⟩
             replace H : (if bq25 = true then (some false) else (impl_IsFormula.l1 k3 l0 (x3_3.set ((rd t1031 x39_3) : Int).toNat true) x25_2 l0 (l0.length : Int) x25_2 t1031 (t1031.length : Int) (wrap64 (x39_3 + 1)))) = some r := by rw [← hbq25] at H; exact H
             have Nbq25 := yA hbq25
             clear hbq25
             by_cases c26 : bq25 = true
             ·subst c26
              replace H := iT H
              obtain rfl := zU H
              have p1035 : 0 ≤ (x39_3 : Int) := zG (by assumption)
              have q1035 : x39_3 < (t1031.length : Int) := zG (by assumption)
              obtain ⟨ad1035, e1035, hx1035_0⟩ := Kd.at_int (zN HO_37.out).2.2 x39_3 p1035 q1035
              cases e1035
              replace p1035 := eq_true p1035
              replace q1035 := eq_true q1035
              obtain ⟨Ao27, co27, eo27⟩ := Kd.R_slice HO_3.out
              subst eo27
              have p1036 : 0 ≤ ((rd t1031 x39_3) : Int) := zG (by assumption)
              have q1036 : (rd t1031 x39_3) < (x3_3.length : Int) := zG (by assumption)
              obtain ⟨ad1036, e1036, hx1036_0⟩ := Kd.at_bool (zN HO_3.out).2.2 (rd t1031 x39_3) p1036 q1036
              (try rw [← Nbq25.out] at hx1036_0)
              cases e1036
              replace p1036 := eq_true p1036
              replace q1036 := eq_true q1036
              go_wp2
              go_ret
              exact ⟨by first | rfl | (simp [errW_none, errW_some] <;> rfl) | (simp [*, errW_none, errW_some] <;> rfl), by repeat (first | (with_reducible first | exact HB.out | apply yO | apply yN | apply yP | refine yQ ?_ GE1030.out) | exact HB.out)⟩
             ·replace c26 := Bool.eq_false_iff.mpr c26
              subst c26
              replace H := iF H
              (first | ((with_reducible replace H := bS H); obtain ⟨y1037, Ny1037, H⟩ := H) | (obtain ⟨y1037, Ny1037⟩ : ∃ y_ : List Bool, y_ = (x3_3.set ((rd t1031 x39_3) : Int).toNat true) := ⟨_, rfl⟩; rw [← Ny1037] at H; replace Ny1037 := yA Ny1037))
              have H' := yA H
              clear H
              have p1035 : 0 ≤ (x39_3 : Int) := zG (by assumption)
              have q1035 : x39_3 < (t1031.length : Int) := zG (by assumption)
              obtain ⟨ad1035, e1035, hx1035_0⟩ := Kd.at_int (zN HO_37.out).2.2 x39_3 p1035 q1035
              cases e1035
              replace p1035 := eq_true p1035
              replace q1035 := eq_true q1035
              obtain ⟨Ao29, co29, eo29⟩ := Kd.R_slice HO_3.out
              subst eo29
              have p1036 : 0 ≤ ((rd t1031 x39_3) : Int) := zG (by assumption)
              have q1036 : (rd t1031 x39_3) < (x3_3.length : Int) := zG (by assumption)
              obtain ⟨ad1036, e1036, hx1036_0⟩ := Kd.at_bool (zN HO_3.out).2.2 (rd t1031 x39_3) p1036 q1036
              (try rw [← Nbq25.out] at hx1036_0)
              cases e1036
              replace p1036 := eq_true p1036
              replace q1036 := eq_true q1036
              have p28 : 0 ≤ ((rd t1031 x39_3) : Int) := zG (by assumption)
              have q28 : ((rd t1031 x39_3) : Int) < ((x3_3.length : Int) : Int) := zG (by assumption)
              obtain ⟨go28, co28, eo28, gb28, gl28, cl28, HG28⟩ := Kd.R_form HO_3.out (by omega)
              (first | cases eo28 | (injection eo28 with ea_ en_ ec_; (first | subst ea_ | (injection ea_ with ea_; subst ea_)); subst ec_; clear en_))
              have GB28 := yA gb28
              have GG28 := yA HG28
              clear gb28 gl28 HG28
              (first | simp only [add_plain] at hx1036_0 | skip)
              obtain ⟨hx28_0, hf28_0⟩ := Kd.R_celln false HO_3.out ((rd t1031 x39_3) : Int) p28 q28
              replace p28 := eq_true p28
              replace q28 := eq_true q28
              have HP30 := Kd.R_putg HO_3.out ((rd t1031 x39_3) : Int) true
              go_wp2_with (first | ((with_reducible refine gate_store (t := 4) (p := 58) rfl ?_); refine store_event (t := 4) (p := 58) (v := ?vo_w31) (w1 := (wr.setCell ⟨go28, ((rd t1031 x39_3) : Int).toNat, none⟩ (.bool true))) ?hg ?ho ?hn ?hr ?_; (case ho => rfl); (case hg => rfl); (case hn => rfl); (case hr => first | (go_simp; done) | (go_simp; rfl)); intro w31 hw; have hg : wr.grownBy w31 (some go28) := (by rw [hw]; exact HP30.2); have hp_ : Kd.R Kd.bool 4 w31 w.heap.size (fun _ => True) (.slice (some ⟨go28, 0, none⟩) x3_3.length co29) y1037 := (by rw [hw, Ny1037.out]; exact HP30.1); clear HP30; replace HO_37 := yA (Kd.R_over' (v := (.slice (some ⟨go28, 0, none⟩) x3_3.length co29)) (mR HO_37.out) (Kd.R_typed HO_3.out) (by decide) hg); replace BK1030 := yA (blk_grown (g := gb1030) (o := .cells #[.int .i64 ((rd_T71 l0 x25_2).f0), .int .i64 ((rd_T71 l0 x25_2).f1), .int .i64 ((rd_T71 l0 x25_2).f2), .int .i64 ((rd_T71 l0 x25_2).f3)] 71 (0, 0)) (mK BK1030.out) hg (zW HO_3.out BK1030.out (by decide))); replace HO_3 := yA (hp_); replace HB := yA ((by rw [hw]; exact yQ (HB.out) GB28.out : Below w.heap.size w w31)); clear hg hw hp_))
              go_roundg k3
              case measure => have := HJ1.out; have := HK2.out; have := HK3.out; omega
              case rel => exact ⟨(y1037), (wrap64 (x39_3 + 1)), (by first | rfl | (simp; done) | (simp [*]; done)), H', ⟨by have := HJ1.out; have := HK2.out; have := HK3.out; omega⟩, ⟨mR HO_3.out⟩, ⟨mR HO_37.out⟩, ⟨mK BK1030.out⟩, ⟨by repeat (first | (with_reducible first | exact HB.out | apply yO | apply yN | apply yP | refine yQ ?_ GE1030.out) | exact HB.out)⟩⟩
          ·rw [if_neg c18] at H
           have c18b0 : decide (x39_3 < (t1031.length : Int)) = false := decide_eq_false c18
           clear c18
           have H' := yA H
           clear H
           go_wp2
           go_roundg k3
           case measure => have := HJ1.out; have := HK2.out; have := HK3.out; omega
           case rel => exact ⟨(x3_3), (wrap64 (x25_2 + 1)), (by first | rfl | (simp; done) | (simp [*]; done)), H', ⟨by have := HJ1.out; have := HK2.out; have := HK3.out; omega⟩, ⟨mR HO_3.out⟩, ⟨by repeat (first | (with_reducible first | exact HB.out | apply yO | apply yN | apply yP | refine yQ ?_ GE1030.out) | exact HB.out)⟩⟩
       ·replace c13 := Bool.eq_false_iff.mpr c13
        subst c13
        replace H := iF H
        obtain rfl := zU H
        have p1029 : 0 ≤ (x25_2 : Int) := zG (by assumption)
        have q1029 : x25_2 < (l0.length : Int) := zG (by assumption)
        obtain ⟨ad1029, e1029, hx1029_0, hx1029_1, hx1029_2, hx1029_3⟩ := at_T71 HR0.out x25_2 p1029 q1029
        cases e1029
        try replace hx1029_0 := (HB.out.cell (zE w _ hx1029_0)).trans hx1029_0
        try replace hx1029_1 := (HB.out.cell (zE w _ hx1029_1)).trans hx1029_1
        try replace hx1029_2 := (HB.out.cell (zE w _ hx1029_2)).trans hx1029_2
        try replace hx1029_3 := (HB.out.cell (zE w _ hx1029_3)).trans hx1029_3
        replace p1029 := eq_true p1029
        replace q1029 := eq_true q1029
        go_wp2_with (first | ((with_reducible refine gate_dst (N := 5) rfl ?_); refine box_event ?hg (N := 5) ?hd (cs := #[.int .i64 0, .int .i64 0, .int .i64 0, .int .i64 0]) (t := 71) ?hr ?_; (case hd => rfl); (case hg => rfl); (case hr => first | (go_simp; done) | (go_simp; rfl)); intro gb1030 hg w32 hbox hb; replace HO_3 := yA (yK (mR HO_3.out) hb); have BK1030 := yA (hbox); have GW1030 := yA ((by rw [hg]; exact (yX (mB HB.out)) : w.heap.size ≤ gb1030)); have GE1030 := yA ((by rw [hg]; exact (yX (mB HB.out)) : w.heap.size ≤ gb1030)); replace HB := yA (zD (mB HB.out) hb); clear hb hbox hg; have hcz33_0 : w32.cell? ⟨gb1030, 0, none⟩ = some (.int .i64 0) := (yV BK1030.out 0).trans rfl; have hcz33_1 : w32.cell? ⟨gb1030, 1, none⟩ = some (.int .i64 0) := (yV BK1030.out 1).trans rfl; have hcz33_2 : w32.cell? ⟨gb1030, 2, none⟩ = some (.int .i64 0) := (yV BK1030.out 2).trans rfl; have hcz33_3 : w32.cell? ⟨gb1030, 3, none⟩ = some (.int .i64 0) := (yV BK1030.out 3).trans rfl; have hfz33_0 := yW BK1030.out 0; have hfz33_1 := yW BK1030.out 1; have hfz33_2 := yW BK1030.out 2; have hfz33_3 := yW BK1030.out 3) | ((with_reducible refine zS (f := 121) rfl ?_); refine goesL_ (some 32) rfl rfl Try.func121 (by kernel_rfl) rfl #[.agg #[.int .i64 ((rd_T71 l0 x25_2).f0), .int .i64 ((rd_T71 l0 x25_2).f1), .int .i64 ((rd_T71 l0 x25_2).f2), .int .i64 ((rd_T71 l0 x25_2).f3)]] rfl (by (try simp only [zI, zJ, zK]); first | done | rfl | (simp only [zL, zM]; rfl)) ?_; (with_reducible refine (impl_Node_kids.calls k2 ((rd_T71 l0 x25_2).f0) ((rd_T71 l0 x25_2).f1) ((rd_T71 l0 x25_2).f2) ((rd_T71 l0 x25_2).f3) t1031 false _ A12.out).mono ?_); rintro e w34 ⟨v1032, rfl, ho0, hb⟩; refine ⟨_, rfl, ?_⟩; replace HO_3 := yA (yK (mR (zP (zQ (p := ⟨gb1030, 3, none⟩) (zQ (p := ⟨gb1030, 2, none⟩) (zQ (p := ⟨gb1030, 1, none⟩) (zQ (p := ⟨gb1030, 0, none⟩) (zR HO_3.out BK1030.out (by decide)) (fun _ hk => hk.2) (.int .i64 ((rd_T71 l0 x25_2).f0))) (fun _ hk => hk.2) (.int .i64 ((rd_T71 l0 x25_2).f1))) (fun _ hk => hk.2) (.int .i64 ((rd_T71 l0 x25_2).f2))) (fun _ hk => hk.2) (.int .i64 ((rd_T71 l0 x25_2).f3))) (fun _ h_ => h_.1))) hb); have HO1033 := yA (Kd.R_lower ho0 (yX (by with_reducible repeat first | exact HB.out | apply yO | apply yN | apply yP | refine yQ ?_ GE1030.out))); replace BK1030 := yA (yU (g := gb1030) (o := .cells #[.int .i64 ((rd_T71 l0 x25_2).f0), .int .i64 ((rd_T71 l0 x25_2).f1), .int .i64 ((rd_T71 l0 x25_2).f2), .int .i64 ((rd_T71 l0 x25_2).f3)] 71 (0, 0)) (by (with_reducible repeat (first | refine yS ?_ _ | refine yT ?_ | refine yR ?_ _)); refine blk_put (cs := #[.int .i64 ((rd_T71 l0 x25_2).f0), .int .i64 ((rd_T71 l0 x25_2).f1), .int .i64 ((rd_T71 l0 x25_2).f2), .int .i64 0]) ?_ 3 _ rfl; (with_reducible repeat (first | refine yS ?_ _ | refine yT ?_ | refine yR ?_ _)); refine blk_put (cs := #[.int .i64 ((rd_T71 l0 x25_2).f0), .int .i64 ((rd_T71 l0 x25_2).f1), .int .i64 0, .int .i64 0]) ?_ 2 _ rfl; (with_reducible repeat (first | refine yS ?_ _ | refine yT ?_ | refine yR ?_ _)); refine blk_put (cs := #[.int .i64 ((rd_T71 l0 x25_2).f0), .int .i64 0, .int .i64 0, .int .i64 0]) ?_ 1 _ rfl; (with_reducible repeat (first | refine yS ?_ _ | refine yT ?_ | refine yR ?_ _)); refine blk_put (cs := #[.int .i64 0, .int .i64 0, .int .i64 0, .int .i64 0]) ?_ 0 _ rfl; (with_reducible repeat (first | refine yS ?_ _ | refine yT ?_ | refine yR ?_ _)); exact BK1030.out) hb); replace HB := yA (zD (by with_reducible repeat first | exact HB.out | apply yO | apply yN | apply yP | refine yQ ?_ GE1030.out) hb); (try clear hb); (try clear hb2); (try clear hk); (try clear hi); (try clear ho0)))
        go_ret
        exact ⟨by first | rfl | (simp [errW_none, errW_some] <;> rfl) | (simp [*, errW_none, errW_some] <;> rfl), by repeat (first | (with_reducible first | exact HB.out | apply yO | apply yN | apply yP | refine yQ ?_ GE1030.out) | exact HB.out)⟩
      ·rw [if_neg c9] at H
       have c9b0 : decide (x25_2 < (l0.length : Int)) = false := decide_eq_false c9
       clear c9
       obtain ⟨ji35, hji35⟩ : ∃ j_ : Int, (wrap64 ((l0.length : Int) - 1)) = j_ := ⟨_, rfl⟩
       replace H : (if 0 ≤ (ji35) then (if (ji35) ≤ (x3_2.length : Int) then ((some (x3_2.take ((ji35) : Int).toNat : List Bool)).bind fun y1038 => (impl_IsFormula.l2 k2 y1038 (y1038.length : Int) 0)) else (none)) else (none)) = some r := by first | (rw [hji35] at H; exact H) | (simp only [hji35] at H ⊢; exact H)
       have hji35w : (IntKind.i64.wrap ((l0.length : Int) - 1)) = ji35 := (i64_w _).trans hji35
       obtain ⟨c36, H⟩ := iP H
       have c36b0 := eq_true c36
       have c36b1 : decide (0 ≤ (ji35)) = true := zH c36
       clear c36
       obtain ⟨c37, H⟩ := iP H
       have c37b0 := eq_true c37
       have c37b1 : decide ((ji35) ≤ (x3_2.length : Int)) = true := zH c37
       clear c37
       (first | ((with_reducible replace H := bS H); obtain ⟨y1038, Ny1038, H⟩ := H) | (obtain ⟨y1038, Ny1038⟩ : ∃ y_ : List Bool, y_ = (x3_2.take ((ji35) : Int).toNat) := ⟨_, rfl⟩; rw [← Ny1038] at H; replace Ny1038 := yA Ny1038))
       have H' := yA H
       clear H
       obtain ⟨Ao39, co39, eo39⟩ := Kd.R_slice HO_3.out
       subst eo39
       have q38 : ((ji35) : Int) ≤ ((x3_2.length : Int) : Int) := zG (by assumption)
       obtain ⟨i038, hi038, _, hsz38, _⟩ := info_parts info4
       have hroom38 : x3_2.length ≤ co39 := (zN HO_3.out).2.1
       have hC38 : Kd.C Kd.bool _ Ao39 x3_2.length x3_2 := (zN HO_3.out).2.2
       have hcut38 := cut_to (P := Try.prog) 27 4 .i64 Try.underlying27 hi038 Ao39 x3_2.length co39 (ji35) (zG (by assumption)) q38 hroom38
       have hr38 := Kd.C_take (m := ((ji35) : Int).toNat) hC38 (by omega)
       have hy38 : y1038.length = ((ji35) : Int).toNat := (by rw [Ny1038.out, zM]; omega)
       rw [← Ny1038.out] at hr38
       rw [← hy38] at hcut38
       have HR1041 := yA hr38
       have HC1041 := yA (show y1038.length ≤ co39 from by omega)
       clear hr38 hC38 hroom38 hi038 hsz38
       have KY38 := yA hy38
       clear hy38
       have KL38 := yA (show ((ji35) : Int).toNat ≤ x3_2.length from by omega)
       replace q38 := eq_true q38
       go_wp2
       go_loopg [67] k2 (fun kq v67 w' => ∃ (x67_3 : Int), v67 = .int .i64 x67_3 ∧ Aside0 (impl_IsFormula.l2 kq y1038 (y1038.length : Int) x67_3 = some r) ∧ Aside0 (kq ≤ k2) ∧ Aside0 (Kd.C Kd.bool w' Ao39 y1038.length y1038) ∧ Aside0 (Below w.heap.size w w'))
       case atStart => exact ⟨(0), (by first | rfl | (simp; done) | (simp [*]; done)), H', ⟨zT _⟩, ⟨by repeat (first | (with_reducible exact HR1041.out) | (with_reducible refine yE ?_ _) | (with_reducible refine yF ?_ _) | (with_reducible refine yG ?_) | exact HR1041.out)⟩, ⟨mB HB.out⟩⟩
       case round =>
        clear H'
        (try clear c1);(try clear p1);(try clear q1);(try clear hx1);(try clear c2);(try clear p2);(try clear q2);(try clear hx2);(try clear hf2);(try clear c3);(try clear c3b0);(try clear c3b1);(try clear q3);(try clear c4);(try clear c5);(try clear c5b0);(try clear c5b1);(try clear c6);(try clear c6b0);(try clear c6b1);(try clear p6);(try clear c9);(try clear c9b0);(try clear c10);(try clear c10b0);(try clear p10);(try clear q10);(try clear hx10);(try clear c11);(try clear c11b0);(try clear c12);(try clear c13);(try clear c18);(try clear c18b0);(try clear c19);(try clear c19b0);(try clear c20);(try clear c20b0);(try clear c21);(try clear c21b0);(try clear c22);(try clear c22b0);(try clear c23);(try clear c23b0);(try clear c24);(try clear c24b0);(try clear q25);(try clear c26);(try clear p28);(try clear q28);(try clear hx28);(try clear hf28);(try clear c36);(try clear c36b0);(try clear c36b1);(try clear c37);(try clear c37b0);(try clear c37b1);(try clear q38);(try clear hcz15_0);(try clear hcz15_1);(try clear hcz15_2);(try clear hcz15_3);(try clear hcz33_0);(try clear hcz33_1);(try clear hcz33_2);(try clear hcz33_3);(try clear hfz15_0);(try clear hfz15_1);(try clear hfz15_2);(try clear hfz15_3);(try clear hfz33_0);(try clear hfz33_1);(try clear hfz33_2);(try clear hfz33_3);(try clear hx1029_0);(try clear hx1029_1);(try clear hx1029_2);(try clear hx1029_3);(try clear hx1035_0);(try clear hx1036_0);(try clear hx28_0);(try clear p1);(try clear p10);(try clear p1029);(try clear p1035);(try clear p1036);(try clear p2);(try clear p28);(try clear q1);(try clear q10);(try clear q1029);(try clear q1035);(try clear q1036);(try clear q28);(try clear q38)
        obtain ⟨x67_3, rfl, HA, HK3, HR1041, HB⟩ := hrel
        cases gk with
        | zero => exact absurd HA.out (by simp [impl_IsFormula.l2])
        | succ k3 =>
         have H := HA.out
         clear HA
         simp only [impl_IsFormula.l2] at H
         by_cases c40 : x67_3 < (y1038.length : Int)
         ·rw [if_pos c40] at H
          have c40b0 : decide (x67_3 < (y1038.length : Int)) = true := zH c40
          clear c40
          obtain ⟨c41, H⟩ := iP H
          have c41b0 : decide (0 ≤ x67_3) = true := zH c41
          clear c41
          obtain ⟨c42, H⟩ := iP H
          have c42b0 : decide (x67_3 < (y1038.length : Int)) = true := zH c42
          clear c42
          obtain ⟨bq43, hbq43⟩ : ∃ b_ : Bool, b_ = (rdOf false y1038 x67_3) := ⟨_, rfl⟩
          replace H : (if bq43 = true then (impl_IsFormula.l2 k3 y1038 (y1038.length : Int) (wrap64 (x67_3 + 1))) else (some false)) = some r := by rw [← hbq43] at H; exact H
          have Nbq43 := yA hbq43
          clear hbq43
          by_cases c44 : bq43 = true
          ·subst c44
           replace H := iT H
           have H' := yA H
           clear H
           have p1042 : 0 ≤ (x67_3 : Int) := zG (by assumption)
           have q1042 : x67_3 < (y1038.length : Int) := zG (by assumption)
           obtain ⟨ad1042, e1042, hx1042_0⟩ := Kd.at_bool HR1041.out x67_3 p1042 q1042
           (try rw [← Nbq43.out] at hx1042_0)
           cases e1042
           try replace hx1042_0 := (HB.out.cell (zE w _ hx1042_0)).trans hx1042_0
           replace p1042 := eq_true p1042
           replace q1042 := eq_true q1042
           go_wp2
           go_roundg k3
           case measure => have := HJ1.out; have := HK2.out; have := HK3.out; omega
           case rel => exact ⟨(wrap64 (x67_3 + 1)), (by first | rfl | (simp; done) | (simp [*]; done)), H', ⟨by have := HJ1.out; have := HK2.out; have := HK3.out; omega⟩, ⟨by repeat (first | (with_reducible exact HR1041.out) | (with_reducible refine yE ?_ _) | (with_reducible refine yF ?_ _) | (with_reducible refine yG ?_) | exact HR1041.out)⟩, ⟨mB HB.out⟩⟩
          ·replace c44 := Bool.eq_false_iff.mpr c44
           subst c44
           replace H := iF H
           obtain rfl := zU H
           have p1042 : 0 ≤ (x67_3 : Int) := zG (by assumption)
           have q1042 : x67_3 < (y1038.length : Int) := zG (by assumption)
           obtain ⟨ad1042, e1042, hx1042_0⟩ := Kd.at_bool HR1041.out x67_3 p1042 q1042
           (try rw [← Nbq43.out] at hx1042_0)
           cases e1042
           try replace hx1042_0 := (HB.out.cell (zE w _ hx1042_0)).trans hx1042_0
           replace p1042 := eq_true p1042
           replace q1042 := eq_true q1042
           go_wp2
           go_ret
           exact ⟨by first | rfl | (simp [errW_none, errW_some] <;> rfl) | (simp only [← hji35]; first | rfl | (simp [errW_none, errW_some] <;> rfl)) | (simp [*, errW_none, errW_some] <;> rfl), by repeat (first | (with_reducible first | exact HB.out | apply yO | apply yN | apply yP) | exact HB.out)⟩
         ·rw [if_neg c40] at H
          have c40b0 : decide (x67_3 < (y1038.length : Int)) = false := decide_eq_false c40
          clear c40
          obtain rfl := zU H
          go_wp2
          go_ret
          exact ⟨by first | rfl | (simp [errW_none, errW_some] <;> rfl) | (simp only [← hji35]; first | rfl | (simp [errW_none, errW_some] <;> rfl)) | (simp [*, errW_none, errW_some] <;> rfl), by repeat (first | (with_reducible first | exact HB.out | apply yO | apply yN | apply yP) | exact HB.out)⟩

end Go.Proofs.Ytmkeicahnnlalaa.Q
