-- written by a program of this session (a turned copy of the kit's print) out of the translation
-- squeezed
-- compact
import Derived.Test.YtdckaflfgbbabaaQ0
import Derived.Test.YtdckaflfgbbabaaQ67
namespace Go.Proofs.Ytdckaflfgbbabaa.Q
open Go.RowKit Go.Proofs.YtdckaflfgbbabaaW.PrintWords Go.Proofs.YtdckaflfgbbabaaW.PrintLast Go.Proofs.YtdckaflfgbbabaaW.PrintMore
attribute [local go_sem] max2_int min2_int max_two min_two max_three min_three max_four min_four   -- for this text's walks alone
set_option linter.unusedVariables false
set_option linter.unusedSimpArgs false

/-! ### impl_IsSequence: function 65 -/
mutual
def impl_IsSequence.j0 : Nat → Int → Bool → Int → List (List Int) → List Int → Option (Bool)
 | 0, _, _, _, _, _ => none
 | k + 1, x3, x29, x683000, x683001, x683002 => if x29 = true then (some false) else (impl_IsSequence.l0 k x3 x683001 (x683001.length : Int) 0 x683000 x683001 x683002)
def impl_IsSequence.l0 : Nat → Int → List (List Int) → Int → Int → Int → List (List Int) → List Int → Option (Bool)
 | 0, _, _, _, _, _, _, _ => none
 | k + 1, x3, x31, x32, x33, x683000, x683001, x683002 => if x33 < x32 then (if 0 ≤ x33 then (if x33 < (x31.length : Int) then (if ((rd_L5 x31 x33).length : Int) = x683000 then (if x33 < (x683002.length : Int) then (if (rd x683002 x33) < 0 then (impl_IsSequence.j2 k x3 (rd_L5 x31 x33) x31 x32 x33 true x683000 x683001 x683002) else (impl_IsSequence.j2 k x3 (rd_L5 x31 x33) x31 x32 x33 (decide ((rd x683002 x33) > 3)) x683000 x683001 x683002)) else (none)) else (impl_IsSequence.j2 k x3 (rd_L5 x31 x33) x31 x32 x33 true x683000 x683001 x683002)) else (none)) else (none)) else (some true)
def impl_IsSequence.j2 : Nat → Int → List Int → List (List Int) → Int → Int → Bool → Int → List (List Int) → List Int → Option (Bool)
 | 0, _, _, _, _, _, _, _, _, _ => none
 | k + 1, x3, x5, x31, x32, x33, x58, x683000, x683001, x683002 => if x58 = true then (some false) else (impl_IsSequence.l1 k x3 x31 x32 x33 x5 (x5.length : Int) 0 x683000 x683001 x683002)
def impl_IsSequence.l1 : Nat → Int → List (List Int) → Int → Int → List Int → Int → Int → Int → List (List Int) → List Int → Option (Bool)
 | 0, _, _, _, _, _, _, _, _, _, _ => none
 | k + 1, x3, x31, x32, x33, x59, x60, x61, x683000, x683001, x683002 => if x61 < x60 then (if 0 ≤ x61 then (if x61 < (x59.length : Int) then (if (rd x59 x61) < 0 then (some false) else (if (rd x59 x61) ≥ x3 then (some false) else (impl_IsSequence.l1 k x3 x31 x32 x33 x59 x60 (wrap64 (x61 + 1)) x683000 x683001 x683002))) else (none)) else (none)) else (impl_IsSequence.l0 k x3 x31 x32 (wrap64 (x33 + 1)) x683000 x683001 x683002)
end
def impl_IsSequence.f (k : Nat) (a0_0 : Int) (l0_1 : List (List Int)) (l0_2 : List Int) : Option (Bool) := (impl_isBase.f a0_0).bind fun t683 => (if t683 = true then (if (l0_1.length : Int) < 1 then (impl_IsSequence.j0 k (l0_1.length : Int) true a0_0 l0_1 l0_2) else (if (l0_1.length : Int) > 16 then (impl_IsSequence.j0 k (l0_1.length : Int) true a0_0 l0_1 l0_2) else (impl_IsSequence.j0 k (l0_1.length : Int) ((l0_2.length : Int) != (l0_1.length : Int)) a0_0 l0_1 l0_2))) else (impl_IsSequence.j0 k (l0_1.length : Int) true a0_0 l0_1 l0_2))
theorem impl_IsSequence.mono_l : ∀ k, (∀ y0 y1 y2 y3 y4, LeO (impl_IsSequence.j0 k y0 y1 y2 y3 y4) (impl_IsSequence.j0 (k + 1) y0 y1 y2 y3 y4)) ∧ (∀ y0 y1 y2 y3 y4 y5 y6, LeO (impl_IsSequence.l0 k y0 y1 y2 y3 y4 y5 y6) (impl_IsSequence.l0 (k + 1) y0 y1 y2 y3 y4 y5 y6)) ∧ (∀ y0 y1 y2 y3 y4 y5 y6 y7 y8, LeO (impl_IsSequence.j2 k y0 y1 y2 y3 y4 y5 y6 y7 y8) (impl_IsSequence.j2 (k + 1) y0 y1 y2 y3 y4 y5 y6 y7 y8)) ∧ (∀ y0 y1 y2 y3 y4 y5 y6 y7 y8 y9, LeO (impl_IsSequence.l1 k y0 y1 y2 y3 y4 y5 y6 y7 y8 y9) (impl_IsSequence.l1 (k + 1) y0 y1 y2 y3 y4 y5 y6 y7 y8 y9))
 | 0 => ⟨fun _ _ _ _ _ r h => by simp [impl_IsSequence.j0] at h, fun _ _ _ _ _ _ _ r h => by simp [impl_IsSequence.l0] at h, fun _ _ _ _ _ _ _ _ _ r h => by simp [impl_IsSequence.j2] at h, fun _ _ _ _ _ _ _ _ _ _ r h => by simp [impl_IsSequence.l1] at h⟩
 | k + 1 => by
  obtain ⟨ih0, ih1, ih2, ih3⟩ := impl_IsSequence.mono_l k; refine ⟨?_, ?_, ?_, ?_⟩
  ·intro y0 y1 y2 y3 y4; unfold impl_IsSequence.j0
   repeat' first
   | (with_reducible exact ih0 _ _ _ _ _)
   | (with_reducible exact ih1 _ _ _ _ _ _ _)
   | (with_reducible exact ih2 _ _ _ _ _ _ _ _ _)
   | (with_reducible exact ih3 _ _ _ _ _ _ _ _ _ _)
   | (with_reducible exact LeO.refl _)
   | (with_reducible exact LeO.none _)
   | (with_reducible refine LeO.ite ?_ ?_)
   | (with_reducible refine LeO.bind ?_ (fun _ => ?_))
   | exact ih0 _ _ _ _ _
   | exact ih1 _ _ _ _ _ _ _
   | exact ih2 _ _ _ _ _ _ _ _ _
   | exact ih3 _ _ _ _ _ _ _ _ _ _
   | exact LeO.none _
   | refine LeO.ite ?_ ?_
   | refine LeO.bind ?_ (fun _ => ?_)
  ·intro y0 y1 y2 y3 y4 y5 y6; unfold impl_IsSequence.l0
   repeat' first
   | (with_reducible exact ih0 _ _ _ _ _)
   | (with_reducible exact ih1 _ _ _ _ _ _ _)
   | (with_reducible exact ih2 _ _ _ _ _ _ _ _ _)
   | (with_reducible exact ih3 _ _ _ _ _ _ _ _ _ _)
   | (with_reducible exact LeO.refl _)
   | (with_reducible exact LeO.none _)
   | (with_reducible refine LeO.ite ?_ ?_)
   | (with_reducible refine LeO.bind ?_ (fun _ => ?_))
   | exact ih0 _ _ _ _ _
   | exact ih1 _ _ _ _ _ _ _
   | exact ih2 _ _ _ _ _ _ _ _ _
   | exact ih3 _ _ _ _ _ _ _ _ _ _
   | exact LeO.none _
   | refine LeO.ite ?_ ?_
   | refine LeO.bind ?_ (fun _ => ?_)
  ·intro y0 y1 y2 y3 y4 y5 y6 y7 y8; unfold impl_IsSequence.j2
   repeat' first
   | (with_reducible exact ih0 _ _ _ _ _)
   | (with_reducible exact ih1 _ _ _ _ _ _ _)
   | (with_reducible exact ih2 _ _ _ _ _ _ _ _ _)
   | (with_reducible exact ih3 _ _ _ _ _ _ _ _ _ _)
   | (with_reducible exact LeO.refl _)
   | (with_reducible exact LeO.none _)
   | (with_reducible refine LeO.ite ?_ ?_)
   | (with_reducible refine LeO.bind ?_ (fun _ => ?_))
   | exact ih0 _ _ _ _ _
   | exact ih1 _ _ _ _ _ _ _
   | exact ih2 _ _ _ _ _ _ _ _ _
   | exact ih3 _ _ _ _ _ _ _ _ _ _
   | exact LeO.none _
   | refine LeO.ite ?_ ?_
   | refine LeO.bind ?_ (fun _ => ?_)
  ·intro y0 y1 y2 y3 y4 y5 y6 y7 y8 y9; unfold impl_IsSequence.l1
   repeat' first
   | (with_reducible exact ih0 _ _ _ _ _)
   | (with_reducible exact ih1 _ _ _ _ _ _ _)
   | (with_reducible exact ih2 _ _ _ _ _ _ _ _ _)
   | (with_reducible exact ih3 _ _ _ _ _ _ _ _ _ _)
   | (with_reducible exact LeO.refl _)
   | (with_reducible exact LeO.none _)
   | (with_reducible refine LeO.ite ?_ ?_)
   | (with_reducible refine LeO.bind ?_ (fun _ => ?_))
   | exact ih0 _ _ _ _ _
   | exact ih1 _ _ _ _ _ _ _
   | exact ih2 _ _ _ _ _ _ _ _ _
   | exact ih3 _ _ _ _ _ _ _ _ _ _
   | exact LeO.none _
   | refine LeO.ite ?_ ?_
   | refine LeO.bind ?_ (fun _ => ?_)
theorem impl_IsSequence.mono : ∀ a0 a1 a2 k, LeO (impl_IsSequence.f k a0 a1 a2) (impl_IsSequence.f (k + 1) a0 a1 a2) := by
 intro a0 a1 a2 k; obtain ⟨ih0, ih1, ih2, ih3⟩ := impl_IsSequence.mono_l k; unfold impl_IsSequence.f
 repeat' first
   | (with_reducible exact ih0 _ _ _ _ _)
   | (with_reducible exact ih1 _ _ _ _ _ _ _)
   | (with_reducible exact ih2 _ _ _ _ _ _ _ _ _)
   | (with_reducible exact ih3 _ _ _ _ _ _ _ _ _ _)
   | (with_reducible exact LeO.refl _)
   | (with_reducible exact LeO.none _)
   | (with_reducible refine LeO.ite ?_ ?_)
   | (with_reducible refine LeO.bind ?_ (fun _ => ?_))
   | exact ih0 _ _ _ _ _
   | exact ih1 _ _ _ _ _ _ _
   | exact ih2 _ _ _ _ _ _ _ _ _
   | exact ih3 _ _ _ _ _ _ _ _ _ _
   | exact LeO.none _
   | refine LeO.ite ?_ ?_
   | refine LeO.bind ?_ (fun _ => ?_)
set_option maxHeartbeats 8000000 in
set_option maxRecDepth 100000 in
theorem impl_IsSequence.calls (k : Nat) (a0_0 : Int) (A0_1 : Option Addr) (c0_1 : Nat) (l0_1 : List (List Int)) (A0_2 : Option Addr) (c0_2 : Nat) (l0_2 : List Int) (r : Bool) (w : World) (hr0_1 : Kd.C (Kd.slice 3 (Kd.int .i64)) w A0_1 l0_1.length l0_1) (hc0_1 : l0_1.length ≤ c0_1) (hr0_2 : Kd.C (Kd.int .i64) w A0_2 l0_2.length l0_2) (hc0_2 : l0_2.length ≤ c0_2) (h : impl_IsSequence.f k a0_0 l0_1 l0_2 = some r) :
  Calls Try.prog 65 #[.agg #[.int .i64 a0_0, .slice A0_1 l0_1.length c0_1, .slice A0_2 l0_2.length c0_2]] w fun e w' => e = .returned (.bool r) ∧ Below w.heap.size w w' := by
 have hu42 := Try.underlying42; have HR0_1 := yA hr0_1; have HC0_1 := yA hc0_1; clear hr0_1 hc0_1; have HR0_2 := yA hr0_2; have HC0_2 := yA hc0_2; clear hr0_2 hc0_2; have HB := yA (zV w.heap.size w); have H : ((impl_isBase.f a0_0).bind fun t683 => (if t683 = true then (if (l0_1.length : Int) < 1 then (impl_IsSequence.j0 k (l0_1.length : Int) true a0_0 l0_1 l0_2) else (if (l0_1.length : Int) > 16 then (impl_IsSequence.j0 k (l0_1.length : Int) true a0_0 l0_1 l0_2) else (impl_IsSequence.j0 k (l0_1.length : Int) ((l0_2.length : Int) != (l0_1.length : Int)) a0_0 l0_1 l0_2))) else (impl_IsSequence.j0 k (l0_1.length : Int) true a0_0 l0_1 l0_2))) = some r := h; clear h; have HC2 := yA H; clear H; go_enter Try.func65, Try.ntmps65; go_upto_region 2 with (first | ((with_reducible refine gate_dst (N := 1) rfl ?_); refine box_event ?hg (N := 1) ?hd (cs := #[.int .i64 a0_0, .slice A0_1 l0_1.length c0_1, .slice A0_2 l0_2.length c0_2]) (t := 42) ?hr ?_; (case hd => rfl); (case hg => rfl); (case hr => first | (go_simp; done) | (go_simp; rfl)); intro gb682 hg w3 hbox hb; have n0_ := yA (zD (mB HB.out) hb); have n1_ := yA (hbox); have n2_ := yA ((by rw [hg]; exact (yX (mB HB.out)) : w.heap.size ≤ gb682)); have n3_ := yA ((by rw [hg]; exact (yX (mB HB.out)) : w.heap.size ≤ gb682)); clear HB; have HB := n0_; have BK682 := n1_; have GW682 := n2_; have GE682 := n3_; clear n0_ n1_ n2_ n3_; clear hb hbox hg; have hcz4_0 : w3.cell? ⟨gb682, 0, none⟩ = some (.int .i64 a0_0) := (yV BK682.out 0).trans rfl; have hcz4_1 : w3.cell? ⟨gb682, 1, none⟩ = some (.slice A0_1 l0_1.length c0_1) := (yV BK682.out 1).trans rfl; have hcz4_2 : w3.cell? ⟨gb682, 2, none⟩ = some (.slice A0_2 l0_2.length c0_2) := (yV BK682.out 2).trans rfl; have hfz4_0 := yW BK682.out 0; have hfz4_1 := yW BK682.out 1; have hfz4_2 := yW BK682.out 2))
 (try simp only [Act.put, zA, zB, zC])
 go_cut [29] (fun v29 wc => ∃ (kq : Nat) (x29_1 : Bool), v29 = .bool x29_1 ∧ Aside0 (impl_IsSequence.j0 kq (l0_1.length : Int) x29_1 a0_0 l0_1 l0_2 = some r) ∧ Aside0 (kq ≤ k) ∧ Aside0 (wc.heap[gb682]? = some (.cells #[.int .i64 a0_0, (.slice A0_1 l0_1.length c0_1), (.slice A0_2 l0_2.length c0_2)] 42 (0, 0))) ∧ Aside0 (Below w.heap.size w wc))
 case first =>
  have H := HC2.out; clear HC2; replace H := Option.bind_eq_some_iff.mp H; obtain ⟨t683, A50, H⟩ := H; replace H : (if t683 = true then (if (l0_1.length : Int) < 1 then (impl_IsSequence.j0 k (l0_1.length : Int) true a0_0 l0_1 l0_2) else (if (l0_1.length : Int) > 16 then (impl_IsSequence.j0 k (l0_1.length : Int) true a0_0 l0_1 l0_2) else (impl_IsSequence.j0 k (l0_1.length : Int) ((l0_2.length : Int) != (l0_1.length : Int)) a0_0 l0_1 l0_2))) else (impl_IsSequence.j0 k (l0_1.length : Int) true a0_0 l0_1 l0_2)) = some r := H; have A5 := yA A50; clear A50; by_cases c6 : t683 = true
  ·subst c6; have H1 : (if (l0_1.length : Int) < 1 then (impl_IsSequence.j0 k (l0_1.length : Int) true a0_0 l0_1 l0_2) else (if (l0_1.length : Int) > 16 then (impl_IsSequence.j0 k (l0_1.length : Int) true a0_0 l0_1 l0_2) else (impl_IsSequence.j0 k (l0_1.length : Int) ((l0_2.length : Int) != (l0_1.length : Int)) a0_0 l0_1 l0_2))) = some r := by rw [if_pos rfl] at H; exact H
   clear H; have H := H1; clear H1; by_cases c7 : (l0_1.length : Int) < 1
   ·rw [if_pos c7] at H; have c7b0 : decide ((l0_1.length : Int) < 1) = true := zH c7; have c7b1 : decide (l0_1.length < 1) = true := zH (by omega); clear c7; (first | rw [c7b0] | (simp only [i64_w, i32_w]; rw [c7b0]) | skip)
    have H' := yA H; clear H; have hcz8_0 : w3.cell? ⟨gb682, 0, none⟩ = some (.int .i64 a0_0) := (yV BK682.out 0).trans rfl; have hcz8_1 : w3.cell? ⟨gb682, 1, none⟩ = some (.slice A0_1 l0_1.length c0_1) := (yV BK682.out 1).trans rfl; have hcz8_2 : w3.cell? ⟨gb682, 2, none⟩ = some (.slice A0_2 l0_2.length c0_2) := (yV BK682.out 2).trans rfl; have hfz8_0 := yW BK682.out 0; have hfz8_1 := yW BK682.out 1; have hfz8_2 := yW BK682.out 2; go_wp2_with (first | ((with_reducible refine zS (f := 72) rfl ?_); refine goesL_ (some 13) rfl rfl Try.func72 (by kernel_rfl) rfl #[.int .i64 a0_0] rfl (by (try simp only [zI, zJ, zK]); first | done | rfl | (simp only [zL, zM]; rfl)) ?_; (with_reducible refine (impl_isBase.calls a0_0 true _ A5.out).mono ?_); rintro e w' ⟨rfl, ⟨nd, rfl⟩⟩; refine ⟨_, rfl, ?_⟩))
    go_meet
    case rel => exact ⟨_, (true), (by first | rfl | (simp; done) | (simp [*]; done)), H', ⟨by first | omega | exact zT _⟩, ⟨by (with_reducible repeat (first | refine yS ?_ _ | refine yT ?_ | refine yR ?_ _)); exact BK682.out⟩, ⟨by repeat (first | (with_reducible first | exact HB.out | apply yO | apply yN | apply yP | refine yQ ?_ GE682.out) | exact HB.out)⟩⟩
   rw [if_neg c7] at H; have c7b0 : decide ((l0_1.length : Int) < 1) = false := decide_eq_false c7; have c7b1 : decide (l0_1.length < 1) = false := decide_eq_false (by omega); clear c7; (first | rw [c7b0] | (simp only [i64_w, i32_w]; rw [c7b0]) | skip)
   by_cases c9 : (l0_1.length : Int) > 16
   ·rw [if_pos c9] at H; have c9b0 : decide (16 < (l0_1.length : Int)) = true := zH c9; have c9b1 : decide (16 < l0_1.length) = true := zH (by omega); clear c9; have H' := yA H; clear H; have hcz10_0 : w3.cell? ⟨gb682, 0, none⟩ = some (.int .i64 a0_0) := (yV BK682.out 0).trans rfl; have hcz10_1 : w3.cell? ⟨gb682, 1, none⟩ = some (.slice A0_1 l0_1.length c0_1) := (yV BK682.out 1).trans rfl; have hcz10_2 : w3.cell? ⟨gb682, 2, none⟩ = some (.slice A0_2 l0_2.length c0_2) := (yV BK682.out 2).trans rfl; have hfz10_0 := yW BK682.out 0; have hfz10_1 := yW BK682.out 1; have hfz10_2 := yW BK682.out 2; go_wp2_with (first | ((with_reducible refine zS (f := 72) rfl ?_); refine goesL_ (some 13) rfl rfl Try.func72 (by kernel_rfl) rfl #[.int .i64 a0_0] rfl (by (try simp only [zI, zJ, zK]); first | done | rfl | (simp only [zL, zM]; rfl)) ?_; (with_reducible refine (impl_isBase.calls a0_0 true _ A5.out).mono ?_); rintro e w' ⟨rfl, ⟨nd, rfl⟩⟩; refine ⟨_, rfl, ?_⟩))
    go_meet
    case rel => exact ⟨_, (true), (by first | rfl | (simp; done) | (simp [*]; done)), H', ⟨by first | omega | exact zT _⟩, ⟨by (with_reducible repeat (first | refine yS ?_ _ | refine yT ?_ | refine yR ?_ _)); exact BK682.out⟩, ⟨by repeat (first | (with_reducible first | exact HB.out | apply yO | apply yN | apply yP | refine yQ ?_ GE682.out) | exact HB.out)⟩⟩
   rw [if_neg c9] at H; have c9b0 : decide (16 < (l0_1.length : Int)) = false := decide_eq_false c9; have c9b1 : decide (16 < l0_1.length) = false := decide_eq_false (by omega); clear c9; have H' := yA H; clear H; have hcz11_0 : w3.cell? ⟨gb682, 0, none⟩ = some (.int .i64 a0_0) := (yV BK682.out 0).trans rfl; have hcz11_1 : w3.cell? ⟨gb682, 1, none⟩ = some (.slice A0_1 l0_1.length c0_1) := (yV BK682.out 1).trans rfl; have hcz11_2 : w3.cell? ⟨gb682, 2, none⟩ = some (.slice A0_2 l0_2.length c0_2) := (yV BK682.out 2).trans rfl; have hfz11_0 := yW BK682.out 0; have hfz11_1 := yW BK682.out 1; have hfz11_2 := yW BK682.out 2; go_wp2_with (first | ((with_reducible refine zS (f := 72) rfl ?_); refine goesL_ (some 13) rfl rfl Try.func72 (by kernel_rfl) rfl #[.int .i64 a0_0] rfl (by (try simp only [zI, zJ, zK]); first | done | rfl | (simp only [zL, zM]; rfl)) ?_; (with_reducible refine (impl_isBase.calls a0_0 true _ A5.out).mono ?_); rintro e w' ⟨rfl, ⟨nd, rfl⟩⟩; refine ⟨_, rfl, ?_⟩))
   go_meet
   case rel => exact ⟨_, (((l0_2.length : Int) != (l0_1.length : Int))), (by first | rfl | (simp; done) | (simp [*]; done)), H', ⟨by first | omega | exact zT _⟩, ⟨by (with_reducible repeat (first | refine yS ?_ _ | refine yT ?_ | refine yR ?_ _)); exact BK682.out⟩, ⟨by repeat (first | (with_reducible first | exact HB.out | apply yO | apply yN | apply yP | refine yQ ?_ GE682.out) | exact HB.out)⟩⟩
  replace c6 := Bool.eq_false_iff.mpr c6; subst c6; have H1 : (impl_IsSequence.j0 k (l0_1.length : Int) true a0_0 l0_1 l0_2) = some r := by rw [if_neg (show ¬ (false = true) by decide)] at H; exact H
  clear H; have H := H1; clear H1; have H' := yA H; clear H; have hcz12_0 : w3.cell? ⟨gb682, 0, none⟩ = some (.int .i64 a0_0) := (yV BK682.out 0).trans rfl; have hcz12_1 : w3.cell? ⟨gb682, 1, none⟩ = some (.slice A0_1 l0_1.length c0_1) := (yV BK682.out 1).trans rfl; have hcz12_2 : w3.cell? ⟨gb682, 2, none⟩ = some (.slice A0_2 l0_2.length c0_2) := (yV BK682.out 2).trans rfl; have hfz12_0 := yW BK682.out 0; have hfz12_1 := yW BK682.out 1; have hfz12_2 := yW BK682.out 2; go_wp2_with (first | ((with_reducible refine zS (f := 72) rfl ?_); refine goesL_ (some 13) rfl rfl Try.func72 (by kernel_rfl) rfl #[.int .i64 a0_0] rfl (by (try simp only [zI, zJ, zK]); first | done | rfl | (simp only [zL, zM]; rfl)) ?_; (with_reducible refine (impl_isBase.calls a0_0 false _ A5.out).mono ?_); rintro e w' ⟨rfl, ⟨nd, rfl⟩⟩; refine ⟨_, rfl, ?_⟩))
  go_meet
  case rel => exact ⟨_, (true), (by first | rfl | (simp; done) | (simp [*]; done)), H', ⟨by first | omega | exact zT _⟩, ⟨by (with_reducible repeat (first | refine yS ?_ _ | refine yT ?_ | refine yR ?_ _)); exact BK682.out⟩, ⟨by repeat (first | (with_reducible first | exact HB.out | apply yO | apply yN | apply yP | refine yQ ?_ GE682.out) | exact HB.out)⟩⟩
 case rest =>
  clear HC2; try clear p2
  try clear c6
  try clear c7
  try clear c7b0
  try clear c7b1
  try clear c9
  try clear c9b0
  try clear c9b1
  try clear hcz10_0
  try clear hcz10_1
  try clear hcz10_2
  try clear hcz11_0
  try clear hcz11_1
  try clear hcz11_2
  try clear hcz12_0
  try clear hcz12_1
  try clear hcz12_2
  try clear hcz4_0
  try clear hcz4_1
  try clear hcz4_2
  try clear hcz8_0
  try clear hcz8_1
  try clear hcz8_2
  try clear hfz10_0
  try clear hfz10_1
  try clear hfz10_2
  try clear hfz11_0
  try clear hfz11_1
  try clear hfz11_2
  try clear hfz12_0
  try clear hfz12_1
  try clear hfz12_2
  try clear hfz4_0
  try clear hfz4_1
  try clear hfz4_2
  try clear hfz8_0
  try clear hfz8_1
  try clear hfz8_2
  obtain ⟨kq, x29_1, rfl, HA, HJ1, BK682, HB⟩ := hcut; cases kq with
  | zero => exact absurd HA.out (by simp [impl_IsSequence.j0])
  | succ kj1 =>
   have H := HA.out; clear HA; simp only [impl_IsSequence.j0] at H; by_cases c13 : x29_1 = true
   ·subst c13; have H1 : (some false) = some r := by rw [if_pos rfl] at H; exact H
    clear H; have H := H1; clear H1; obtain rfl := zU H; go_wp2; go_ret; exact ⟨by first | rfl | (simp [errW_none, errW_some] <;> rfl) | (simp [*, errW_none, errW_some] <;> rfl), by repeat (first | (with_reducible first | exact HB.out | apply yO | apply yN | apply yP | refine yQ ?_ GE682.out) | exact HB.out)⟩
   replace c13 := Bool.eq_false_iff.mpr c13; subst c13; have H1 : (impl_IsSequence.l0 kj1 (l0_1.length : Int) l0_1 (l0_1.length : Int) 0 a0_0 l0_1 l0_2) = some r := by rw [if_neg (show ¬ (false = true) by decide)] at H; exact H
   clear H; have H := H1; clear H1; have H' := yA H; clear H; have hcz14_0 : wc.cell? ⟨gb682, 0, none⟩ = some (.int .i64 a0_0) := (yV BK682.out 0).trans rfl; have hcz14_1 : wc.cell? ⟨gb682, 1, none⟩ = some (.slice A0_1 l0_1.length c0_1) := (yV BK682.out 1).trans rfl; have hcz14_2 : wc.cell? ⟨gb682, 2, none⟩ = some (.slice A0_2 l0_2.length c0_2) := (yV BK682.out 2).trans rfl; have hfz14_0 := yW BK682.out 0; have hfz14_1 := yW BK682.out 1; have hfz14_2 := yW BK682.out 2; go_wp2; go_loopg [33] kj1 (fun kq v33 w' => ∃ (x33_2 : Int), v33 = .int .i64 x33_2 ∧ Aside0 (impl_IsSequence.l0 kq (l0_1.length : Int) l0_1 (l0_1.length : Int) x33_2 a0_0 l0_1 l0_2 = some r) ∧ Aside0 (kq ≤ kj1) ∧ Aside0 (w'.heap[gb682]? = some (.cells #[.int .i64 a0_0, (.slice A0_1 l0_1.length c0_1), (.slice A0_2 l0_2.length c0_2)] 42 (0, 0))) ∧ Aside0 (Below w.heap.size w w'))
   case atStart => exact ⟨(0), (by first | rfl | (simp; done) | (simp [*]; done)), H', ⟨zT _⟩, ⟨by (with_reducible repeat (first | refine yS ?_ _ | refine yT ?_ | refine yR ?_ _)); exact BK682.out⟩, ⟨by repeat (first | (with_reducible first | exact HB.out | apply yO | apply yN | apply yP | refine yQ ?_ GE682.out) | exact HB.out)⟩⟩
   case round =>
    clear H'; try clear c1
    try clear p2
    try clear c6
    try clear c7
    try clear c7b0
    try clear c7b1
    try clear c9
    try clear c9b0
    try clear c9b1
    try clear c13
    try clear hcz10_0
    try clear hcz10_1
    try clear hcz10_2
    try clear hcz11_0
    try clear hcz11_1
    try clear hcz11_2
    try clear hcz12_0
    try clear hcz12_1
    try clear hcz12_2
    try clear hcz14_0
    try clear hcz14_1
    try clear hcz14_2
    try clear hcz4_0
    try clear hcz4_1
    try clear hcz4_2
    try clear hcz8_0
    try clear hcz8_1
    try clear hcz8_2
    try clear hfz10_0
    try clear hfz10_1
    try clear hfz10_2
    try clear hfz11_0
    try clear hfz11_1
    try clear hfz11_2
    try clear hfz12_0
    try clear hfz12_1
    try clear hfz12_2
    try clear hfz14_0
    try clear hfz14_1
    try clear hfz14_2
    try clear hfz4_0
    try clear hfz4_1
    try clear hfz4_2
    try clear hfz8_0
    try clear hfz8_1
    try clear hfz8_2
    try clear p2
    obtain ⟨x33_2, rfl, HA, HK2, BK682, HB⟩ := hrel; cases gk with
    | zero => exact absurd HA.out (by simp [impl_IsSequence.l0])
    | succ k2 =>
     have H := HA.out; clear HA; simp only [impl_IsSequence.l0] at H; by_cases c15 : x33_2 < (l0_1.length : Int)
     ·rw [if_pos c15] at H; have c15b0 : decide (x33_2 < (l0_1.length : Int)) = true := zH c15; clear c15; by_cases c16 : 0 ≤ x33_2
      ·rw [if_pos c16] at H; have c16b0 : decide (0 ≤ x33_2) = true := zH c16; clear c16; by_cases c17 : x33_2 < (l0_1.length : Int)
       ·rw [if_pos c17] at H; have c17b0 : decide (x33_2 < (l0_1.length : Int)) = true := zH c17; clear c17; have HC18 := yA H; clear H; have p684 : 0 ≤ (x33_2 : Int) := zG (by first | (with_reducible assumption) | assumption); have q684 : x33_2 < (l0_1.length : Int) := zG (by first | (with_reducible assumption) | assumption); obtain ⟨ad684, A684_0, c684_0, e684, hx684_0, hl684_0, hi684_0⟩ := at_L5 HR0_1.out x33_2 p684 q684; cases e684; try replace hx684_0 := (HB.out.cell (zE w _ hx684_0)).trans hx684_0
        have HR684_0 := yA hi684_0; have HC684_0 := yA hl684_0; clear hi684_0 hl684_0; replace p684 := eq_true p684; replace q684 := eq_true q684; go_upto_region 7 with (fail)
        go_cut [58] (fun v58 wc => ∃ (kq : Nat) (x58_17 : Bool), v58 = .bool x58_17 ∧ Aside0 (impl_IsSequence.j2 kq (l0_1.length : Int) (rd_L5 l0_1 x33_2) l0_1 (l0_1.length : Int) x33_2 x58_17 a0_0 l0_1 l0_2 = some r) ∧ Aside0 (kq ≤ k2) ∧ Aside0 (wc.heap[gb682]? = some (.cells #[.int .i64 a0_0, (.slice (some ad684) l0_1.length c0_1), (.slice A0_2 l0_2.length c0_2)] 42 (0, 0))) ∧ Aside0 (Below w.heap.size w wc))
        case first =>
         have H := HC18.out; clear HC18; by_cases c19 : ((rd_L5 l0_1 x33_2).length : Int) = a0_0
         ·rw [if_pos c19] at H; have c19b0 : (((rd_L5 l0_1 x33_2).length : Int) == a0_0) = true := beq_iff_eq.mpr c19; have c19b1 : (((rd_L5 l0_1 x33_2).length : Int) != a0_0) = false := bne_eq_false_iff_eq.mpr c19; clear c19; (first | rw [c19b0] | (simp only [i64_w, i32_w]; rw [c19b0]) | skip)
          by_cases c20 : x33_2 < (l0_2.length : Int)
          ·rw [if_pos c20] at H; have c20b0 : decide (x33_2 < (l0_2.length : Int)) = true := zH c20; clear c20; by_cases c21 : (rd l0_2 x33_2) < 0
           ·rw [if_pos c21] at H; have c21b0 : decide ((rd l0_2 x33_2) < 0) = true := zH c21; clear c21; have H' := yA H; clear H; have hcz22_0 : wr.cell? ⟨gb682, 0, none⟩ = some (.int .i64 a0_0) := (yV BK682.out 0).trans rfl; have hcz22_1 : wr.cell? ⟨gb682, 1, none⟩ = some (.slice (some ad684) l0_1.length c0_1) := (yV BK682.out 1).trans rfl; have hcz22_2 : wr.cell? ⟨gb682, 2, none⟩ = some (.slice A0_2 l0_2.length c0_2) := (yV BK682.out 2).trans rfl; have hfz22_0 := yW BK682.out 0; have hfz22_1 := yW BK682.out 1; have hfz22_2 := yW BK682.out 2; have p685 : 0 ≤ (x33_2 : Int) := zG (by first | (with_reducible assumption) | assumption); have q685 : x33_2 < (l0_2.length : Int) := zG (by first | (with_reducible assumption) | assumption); obtain ⟨ad685, e685, hx685_0⟩ := Kd.at_int HR0_2.out x33_2 p685 q685; cases e685; try replace hx685_0 := (HB.out.cell (zE w _ hx685_0)).trans hx685_0
            replace p685 := eq_true p685; replace q685 := eq_true q685; go_wp2; go_meet
            case rel => exact ⟨_, (true), (by first | rfl | (simp; done) | (simp [*]; done)), H', ⟨by have := HJ1.out; have := HK2.out; first | omega | exact zT _⟩, ⟨by (with_reducible repeat (first | refine yS ?_ _ | refine yT ?_ | refine yR ?_ _)); exact BK682.out⟩, ⟨by repeat (first | (with_reducible first | exact HB.out | apply yO | apply yN | apply yP | refine yQ ?_ GE682.out) | exact HB.out)⟩⟩
           rw [if_neg c21] at H; have c21b0 : decide ((rd l0_2 x33_2) < 0) = false := decide_eq_false c21; clear c21; have H' := yA H; clear H; have hcz23_0 : wr.cell? ⟨gb682, 0, none⟩ = some (.int .i64 a0_0) := (yV BK682.out 0).trans rfl; have hcz23_1 : wr.cell? ⟨gb682, 1, none⟩ = some (.slice (some ad684) l0_1.length c0_1) := (yV BK682.out 1).trans rfl; have hcz23_2 : wr.cell? ⟨gb682, 2, none⟩ = some (.slice A0_2 l0_2.length c0_2) := (yV BK682.out 2).trans rfl; have hfz23_0 := yW BK682.out 0; have hfz23_1 := yW BK682.out 1; have hfz23_2 := yW BK682.out 2; have p685 : 0 ≤ (x33_2 : Int) := zG (by first | (with_reducible assumption) | assumption); have q685 : x33_2 < (l0_2.length : Int) := zG (by first | (with_reducible assumption) | assumption); obtain ⟨ad685, e685, hx685_0⟩ := Kd.at_int HR0_2.out x33_2 p685 q685; cases e685; try replace hx685_0 := (HB.out.cell (zE w _ hx685_0)).trans hx685_0
           replace p685 := eq_true p685; replace q685 := eq_true q685; have p686 : 0 ≤ (x33_2 : Int) := zG (by first | (with_reducible assumption) | assumption); have q686 : x33_2 < (l0_2.length : Int) := zG (by first | (with_reducible assumption) | assumption); obtain ⟨ad686, e686, hx686_0⟩ := Kd.at_int HR0_2.out x33_2 p686 q686; obtain rfl : ad685 = ad686 := (by injection e686); try replace hx686_0 := (HB.out.cell (zE w _ hx686_0)).trans hx686_0
           replace p686 := eq_true p686; replace q686 := eq_true q686; go_wp2; go_meet
           case rel => exact ⟨_, (decide ((rd l0_2 x33_2) > 3)), (by first | rfl | (simp; done) | (simp [*]; done)), H', ⟨by have := HJ1.out; have := HK2.out; first | omega | exact zT _⟩, ⟨by (with_reducible repeat (first | refine yS ?_ _ | refine yT ?_ | refine yR ?_ _)); exact BK682.out⟩, ⟨by repeat (first | (with_reducible first | exact HB.out | apply yO | apply yN | apply yP | refine yQ ?_ GE682.out) | exact HB.out)⟩⟩
          rw [if_neg c20] at H; exact absurd H (by simp)
         rw [if_neg c19] at H; have c19b0 : (((rd_L5 l0_1 x33_2).length : Int) == a0_0) = false := beq_eq_false_iff_ne.mpr c19; have c19b1 : (((rd_L5 l0_1 x33_2).length : Int) != a0_0) = true := bne_iff_ne.mpr c19; (first | rw [c19b0] | (simp only [i64_w, i32_w]; rw [c19b0]) | skip)
         have H' := yA H; clear H; have hcz24_0 : wr.cell? ⟨gb682, 0, none⟩ = some (.int .i64 a0_0) := (yV BK682.out 0).trans rfl; have hcz24_1 : wr.cell? ⟨gb682, 1, none⟩ = some (.slice (some ad684) l0_1.length c0_1) := (yV BK682.out 1).trans rfl; have hcz24_2 : wr.cell? ⟨gb682, 2, none⟩ = some (.slice A0_2 l0_2.length c0_2) := (yV BK682.out 2).trans rfl; have hfz24_0 := yW BK682.out 0; have hfz24_1 := yW BK682.out 1; have hfz24_2 := yW BK682.out 2; go_wp2; go_meet
         case rel => exact ⟨_, (true), (by first | rfl | (simp; done) | (simp [*]; done)), H', ⟨by have := HJ1.out; have := HK2.out; first | omega | exact zT _⟩, ⟨by (with_reducible repeat (first | refine yS ?_ _ | refine yT ?_ | refine yR ?_ _)); exact BK682.out⟩, ⟨by repeat (first | (with_reducible first | exact HB.out | apply yO | apply yN | apply yP | refine yQ ?_ GE682.out) | exact HB.out)⟩⟩
        case rest =>
         clear HC18; try clear c1
         try clear c2
         try clear p2
         try clear c6
         try clear p6
         try clear q6
         try clear hx6
         try clear c7
         try clear c7b0
         try clear c7b1
         try clear c9
         try clear c9b0
         try clear c9b1
         try clear c13
         try clear c15
         try clear c15b0
         try clear c16
         try clear c16b0
         try clear c17
         try clear c17b0
         try clear c19
         try clear c19b0
         try clear c19b1
         try clear c20
         try clear c20b0
         try clear c21
         try clear c21b0
         try clear hcz10_0
         try clear hcz10_1
         try clear hcz10_2
         try clear hcz11_0
         try clear hcz11_1
         try clear hcz11_2
         try clear hcz12_0
         try clear hcz12_1
         try clear hcz12_2
         try clear hcz14_0
         try clear hcz14_1
         try clear hcz14_2
         try clear hcz22_0
         try clear hcz22_1
         try clear hcz22_2
         try clear hcz23_0
         try clear hcz23_1
         try clear hcz23_2
         try clear hcz24_0
         try clear hcz24_1
         try clear hcz24_2
         try clear hcz4_0
         try clear hcz4_1
         try clear hcz4_2
         try clear hcz8_0
         try clear hcz8_1
         try clear hcz8_2
         try clear hfz10_0
         try clear hfz10_1
         try clear hfz10_2
         try clear hfz11_0
         try clear hfz11_1
         try clear hfz11_2
         try clear hfz12_0
         try clear hfz12_1
         try clear hfz12_2
         try clear hfz14_0
         try clear hfz14_1
         try clear hfz14_2
         try clear hfz22_0
         try clear hfz22_1
         try clear hfz22_2
         try clear hfz23_0
         try clear hfz23_1
         try clear hfz23_2
         try clear hfz24_0
         try clear hfz24_1
         try clear hfz24_2
         try clear hfz4_0
         try clear hfz4_1
         try clear hfz4_2
         try clear hfz8_0
         try clear hfz8_1
         try clear hfz8_2
         try clear hx684_0
         try clear hx685_0
         try clear hx686_0
         try clear p2
         try clear p684
         try clear p685
         try clear p686
         try clear q684
         try clear q685
         try clear q686
         obtain ⟨kq, x58_17, rfl, HA, HJ17, BK682, HB⟩ := hcut; cases kq with
         | zero => exact absurd HA.out (by simp [impl_IsSequence.j2])
         | succ kj17 =>
          have H := HA.out; clear HA; simp only [impl_IsSequence.j2] at H; by_cases c25 : x58_17 = true
          ·subst c25; have H1 : (some false) = some r := by rw [if_pos rfl] at H; exact H
           clear H; have H := H1; clear H1; obtain rfl := zU H; go_wp2; go_ret; exact ⟨by first | rfl | (simp [errW_none, errW_some] <;> rfl) | (simp [*, errW_none, errW_some] <;> rfl), by repeat (first | (with_reducible first | exact HB.out | apply yO | apply yN | apply yP | refine yQ ?_ GE682.out) | exact HB.out)⟩
          replace c25 := Bool.eq_false_iff.mpr c25; subst c25; have H1 : (impl_IsSequence.l1 kj17 (l0_1.length : Int) l0_1 (l0_1.length : Int) x33_2 (rd_L5 l0_1 x33_2) ((rd_L5 l0_1 x33_2).length : Int) 0 a0_0 l0_1 l0_2) = some r := by rw [if_neg (show ¬ (false = true) by decide)] at H; exact H
          clear H; have H := H1; clear H1; have H' := yA H; clear H; go_wp2; go_loopg [61] kj17 (fun kq v61 w' => ∃ (x61_4 : Int), v61 = .int .i64 x61_4 ∧ Aside0 (impl_IsSequence.l1 kq (l0_1.length : Int) l0_1 (l0_1.length : Int) x33_2 (rd_L5 l0_1 x33_2) ((rd_L5 l0_1 x33_2).length : Int) x61_4 a0_0 l0_1 l0_2 = some r) ∧ Aside0 (kq ≤ kj17) ∧ Aside0 (w'.heap[gb682]? = some (.cells #[.int .i64 a0_0, (.slice (some ad684) l0_1.length c0_1), (.slice A0_2 l0_2.length c0_2)] 42 (0, 0))) ∧ Aside0 (Below w.heap.size w w'))
          case atStart => exact ⟨(0), (by first | rfl | (simp; done) | (simp [*]; done)), H', ⟨zT _⟩, ⟨by (with_reducible repeat (first | refine yS ?_ _ | refine yT ?_ | refine yR ?_ _)); exact BK682.out⟩, ⟨by repeat (first | (with_reducible first | exact HB.out | apply yO | apply yN | apply yP | refine yQ ?_ GE682.out) | exact HB.out)⟩⟩
          case round =>
           clear H'; try clear c1
           try clear c2
           try clear p2
           try clear c6
           try clear p6
           try clear q6
           try clear hx6
           try clear c7
           try clear c7b0
           try clear c7b1
           try clear c9
           try clear c9b0
           try clear c9b1
           try clear c13
           try clear c15
           try clear c15b0
           try clear c16
           try clear c16b0
           try clear c17
           try clear c17b0
           try clear c19
           try clear c19b0
           try clear c19b1
           try clear c20
           try clear c20b0
           try clear c21
           try clear c21b0
           try clear c25
           try clear hcz10_0
           try clear hcz10_1
           try clear hcz10_2
           try clear hcz11_0
           try clear hcz11_1
           try clear hcz11_2
           try clear hcz12_0
           try clear hcz12_1
           try clear hcz12_2
           try clear hcz14_0
           try clear hcz14_1
           try clear hcz14_2
           try clear hcz22_0
           try clear hcz22_1
           try clear hcz22_2
           try clear hcz23_0
           try clear hcz23_1
           try clear hcz23_2
           try clear hcz24_0
           try clear hcz24_1
           try clear hcz24_2
           try clear hcz4_0
           try clear hcz4_1
           try clear hcz4_2
           try clear hcz8_0
           try clear hcz8_1
           try clear hcz8_2
           try clear hfz10_0
           try clear hfz10_1
           try clear hfz10_2
           try clear hfz11_0
           try clear hfz11_1
           try clear hfz11_2
           try clear hfz12_0
           try clear hfz12_1
           try clear hfz12_2
           try clear hfz14_0
           try clear hfz14_1
           try clear hfz14_2
           try clear hfz22_0
           try clear hfz22_1
           try clear hfz22_2
           try clear hfz23_0
           try clear hfz23_1
           try clear hfz23_2
           try clear hfz24_0
           try clear hfz24_1
           try clear hfz24_2
           try clear hfz4_0
           try clear hfz4_1
           try clear hfz4_2
           try clear hfz8_0
           try clear hfz8_1
           try clear hfz8_2
           try clear hx684_0
           try clear hx685_0
           try clear hx686_0
           try clear p2
           try clear p6
           try clear p684
           try clear p685
           try clear p686
           try clear q6
           try clear q684
           try clear q685
           try clear q686
           obtain ⟨x61_4, rfl, HA, HK4, BK682, HB⟩ := hrel; cases gk with
           | zero => exact absurd HA.out (by simp [impl_IsSequence.l1])
           | succ k4 =>
            have H := HA.out; clear HA; simp only [impl_IsSequence.l1] at H; by_cases c26 : x61_4 < ((rd_L5 l0_1 x33_2).length : Int)
            ·rw [if_pos c26] at H; have c26b0 : decide (x61_4 < ((rd_L5 l0_1 x33_2).length : Int)) = true := zH c26; clear c26; by_cases c27 : 0 ≤ x61_4
             ·rw [if_pos c27] at H; have c27b0 : decide (0 ≤ x61_4) = true := zH c27; clear c27; by_cases c28 : x61_4 < ((rd_L5 l0_1 x33_2).length : Int)
              ·rw [if_pos c28] at H; have c28b0 : decide (x61_4 < ((rd_L5 l0_1 x33_2).length : Int)) = true := zH c28; clear c28; by_cases c29 : (rd (rd_L5 l0_1 x33_2) x61_4) < 0
               ·rw [if_pos c29] at H; have c29b0 : decide ((rd (rd_L5 l0_1 x33_2) x61_4) < 0) = true := zH c29; clear c29; obtain rfl := zU H; have p687 : 0 ≤ (x61_4 : Int) := zG (by first | (with_reducible assumption) | assumption); have q687 : x61_4 < ((rd_L5 l0_1 x33_2).length : Int) := zG (by first | (with_reducible assumption) | assumption); obtain ⟨ad687, e687, hx687_0⟩ := Kd.at_int HR684_0.out x61_4 p687 q687; cases e687; try replace hx687_0 := (HB.out.cell (zE w _ hx687_0)).trans hx687_0
                replace p687 := eq_true p687; replace q687 := eq_true q687; go_wp2; go_ret; exact ⟨by first | rfl | (simp [errW_none, errW_some] <;> rfl) | (simp [*, errW_none, errW_some] <;> rfl), by repeat (first | (with_reducible first | exact HB.out | apply yO | apply yN | apply yP | refine yQ ?_ GE682.out) | exact HB.out)⟩
               rw [if_neg c29] at H; have c29b0 : decide ((rd (rd_L5 l0_1 x33_2) x61_4) < 0) = false := decide_eq_false c29; clear c29; by_cases c30 : (rd (rd_L5 l0_1 x33_2) x61_4) ≥ (l0_1.length : Int)
               ·rw [if_pos c30] at H; have c30b0 : decide ((l0_1.length : Int) ≤ (rd (rd_L5 l0_1 x33_2) x61_4)) = true := zH c30; clear c30; obtain rfl := zU H; have p687 : 0 ≤ (x61_4 : Int) := zG (by first | (with_reducible assumption) | assumption); have q687 : x61_4 < ((rd_L5 l0_1 x33_2).length : Int) := zG (by first | (with_reducible assumption) | assumption); obtain ⟨ad687, e687, hx687_0⟩ := Kd.at_int HR684_0.out x61_4 p687 q687; cases e687; try replace hx687_0 := (HB.out.cell (zE w _ hx687_0)).trans hx687_0
                replace p687 := eq_true p687; replace q687 := eq_true q687; go_wp2; go_ret; exact ⟨by first | rfl | (simp [errW_none, errW_some] <;> rfl) | (simp [*, errW_none, errW_some] <;> rfl), by repeat (first | (with_reducible first | exact HB.out | apply yO | apply yN | apply yP | refine yQ ?_ GE682.out) | exact HB.out)⟩
               rw [if_neg c30] at H; have c30b0 : decide ((l0_1.length : Int) ≤ (rd (rd_L5 l0_1 x33_2) x61_4)) = false := decide_eq_false c30; clear c30; have H' := yA H; clear H; have p687 : 0 ≤ (x61_4 : Int) := zG (by first | (with_reducible assumption) | assumption); have q687 : x61_4 < ((rd_L5 l0_1 x33_2).length : Int) := zG (by first | (with_reducible assumption) | assumption); obtain ⟨ad687, e687, hx687_0⟩ := Kd.at_int HR684_0.out x61_4 p687 q687; cases e687; try replace hx687_0 := (HB.out.cell (zE w _ hx687_0)).trans hx687_0
               replace p687 := eq_true p687; replace q687 := eq_true q687; go_wp2; go_roundg k4
               case measure => have := HJ1.out; have := HK2.out; have := HJ17.out; have := HK4.out; omega
               case rel => exact ⟨(wrap64 (x61_4 + 1)), (by first | rfl | (simp; done) | (simp [*]; done)), H', ⟨by have := HJ1.out; have := HK2.out; have := HJ17.out; have := HK4.out; omega⟩, ⟨by (with_reducible repeat (first | refine yS ?_ _ | refine yT ?_ | refine yR ?_ _)); exact BK682.out⟩, ⟨by repeat (first | (with_reducible first | exact HB.out | apply yO | apply yN | apply yP | refine yQ ?_ GE682.out) | exact HB.out)⟩⟩
              rw [if_neg c28] at H; exact absurd H (by simp)
             rw [if_neg c27] at H; exact absurd H (by simp)
            rw [if_neg c26] at H; have c26b0 : decide (x61_4 < ((rd_L5 l0_1 x33_2).length : Int)) = false := decide_eq_false c26; clear c26; have H' := yA H; clear H; go_wp2; go_roundg k4
            case measure => have := HJ1.out; have := HK2.out; have := HJ17.out; have := HK4.out; omega
            case rel => exact ⟨(wrap64 (x33_2 + 1)), (by first | rfl | (simp; done) | (simp [*]; done)), H', ⟨by have := HJ1.out; have := HK2.out; have := HJ17.out; have := HK4.out; omega⟩, ⟨by (with_reducible repeat (first | refine yS ?_ _ | refine yT ?_ | refine yR ?_ _)); exact BK682.out⟩, ⟨by repeat (first | (with_reducible first | exact HB.out | apply yO | apply yN | apply yP | refine yQ ?_ GE682.out) | exact HB.out)⟩⟩
       rw [if_neg c17] at H; exact absurd H (by simp)
      rw [if_neg c16] at H; exact absurd H (by simp)
     rw [if_neg c15] at H; have c15b0 : decide (x33_2 < (l0_1.length : Int)) = false := decide_eq_false c15; clear c15; obtain rfl := zU H; go_wp2; go_ret; exact ⟨by first | rfl | (simp [errW_none, errW_some] <;> rfl) | (simp [*, errW_none, errW_some] <;> rfl), by repeat (first | (with_reducible first | exact HB.out | apply yO | apply yN | apply yP | refine yQ ?_ GE682.out) | exact HB.out)⟩

end Go.Proofs.Ytdckaflfgbbabaa.Q
