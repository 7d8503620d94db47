-- written by a program of this session
-- squeezed
-- compact
-- shrunk
import Derived.Test.YtgopcliohchkmaaQ0
import Derived.Test.YtgopcliohchkmaaQ3
import Derived.Test.YtgopcliohchkmaaQ4
namespace Go.Proofs.Ytgopcliohchkmaa.Q
open Go.RowKit Go.Proofs.YtgopcliohchkmaaW.PrintWords Go.Proofs.YtgopcliohchkmaaW.PrintLast Go.Proofs.YtgopcliohchkmaaW.PrintMore
set_option linter.unusedVariables false
set_option linter.unusedSimpArgs false

/-! ### impl_IsRelation: function 65 -/
mutual
def impl_IsRelation.j0 : Nat → Int → Bool → Int → Int → List (List Int) → List Bool → Option (Bool)
 | 0, _, _, _, _, _, _ => none
 | k + 1, x3, x39, x376000, x376001, x376002, x376003 => if x39 = true then (some false) else (impl_IsRelation.l0 k x3 x376002 (x376002.length : Int) 0 x376000 x376001 x376002 x376003)
def impl_IsRelation.l0 : Nat → Int → List (List Int) → Int → Int → Int → Int → List (List Int) → List Bool → Option (Bool)
 | 0, _, _, _, _, _, _, _, _ => none
 | k + 1, x3, x41, x42, x43, x376000, x376001, x376002, x376003 => if x43 < x42 then (if 0 ≤ x43 then (if x43 < (x41.length : Int) then ((impl_power.f k x376000 x376001).bind fun t380 => (if ((rd_L1 x41 x43).length : Int) = t380 then (impl_IsRelation.l1 k x3 x41 x42 x43 (rd_L1 x41 x43) ((rd_L1 x41 x43).length : Int) 0 x376000 x376001 x376002 x376003) else (some false))) else (none)) else (none)) else (if 0 < (x376002.length : Int) then (if 0 < ((rd_L1 x376002 0).length : Int) then (some ((rd (rd_L1 x376002 0) 0) == 0)) else (none)) else (none))
def impl_IsRelation.l1 : Nat → Int → List (List Int) → Int → Int → List Int → Int → Int → Int → Int → List (List Int) → List Bool → Option (Bool)
 | 0, _, _, _, _, _, _, _, _, _, _, _ => none
 | k + 1, x3, x41, x42, x43, x55, x56, x57, x376000, x376001, x376002, x376003 => if x57 < x56 then (if 0 ≤ x57 then (if x57 < (x55.length : Int) then (if (rd x55 x57) < 0 then (some false) else (if (rd x55 x57) ≥ x3 then (some false) else (impl_IsRelation.l1 k x3 x41 x42 x43 x55 x56 (wrap64 (x57 + 1)) x376000 x376001 x376002 x376003))) else (none)) else (none)) else (impl_IsRelation.l0 k x3 x41 x42 (wrap64 (x43 + 1)) x376000 x376001 x376002 x376003)
end
def impl_IsRelation.f (k : Nat) (a0_0 : Int) (a0_1 : Int) (l0_2 : List (List Int)) (l0_3 : List Bool) : Option (Bool) := (impl_isSmallBase.f a0_0).bind fun t376 => (if t376 = true then (if a0_1 < 0 then (impl_IsRelation.j0 k (l0_2.length : Int) true a0_0 a0_1 l0_2 l0_3) else (if a0_1 > 3 then (impl_IsRelation.j0 k (l0_2.length : Int) true a0_0 a0_1 l0_2 l0_3) else (if (l0_2.length : Int) < 1 then (impl_IsRelation.j0 k (l0_2.length : Int) true a0_0 a0_1 l0_2 l0_3) else (if (l0_2.length : Int) > 48 then (impl_IsRelation.j0 k (l0_2.length : Int) true a0_0 a0_1 l0_2 l0_3) else (impl_IsRelation.j0 k (l0_2.length : Int) ((l0_3.length : Int) != (l0_2.length : Int)) a0_0 a0_1 l0_2 l0_3))))) else (impl_IsRelation.j0 k (l0_2.length : Int) true a0_0 a0_1 l0_2 l0_3))
theorem impl_IsRelation.mono_l : ∀ k, (∀ y0 y1 y2 y3 y4 y5, LeO (impl_IsRelation.j0 k y0 y1 y2 y3 y4 y5) (impl_IsRelation.j0 (k + 1) y0 y1 y2 y3 y4 y5)) ∧ (∀ y0 y1 y2 y3 y4 y5 y6 y7, LeO (impl_IsRelation.l0 k y0 y1 y2 y3 y4 y5 y6 y7) (impl_IsRelation.l0 (k + 1) y0 y1 y2 y3 y4 y5 y6 y7)) ∧ (∀ y0 y1 y2 y3 y4 y5 y6 y7 y8 y9 y10, LeO (impl_IsRelation.l1 k y0 y1 y2 y3 y4 y5 y6 y7 y8 y9 y10) (impl_IsRelation.l1 (k + 1) y0 y1 y2 y3 y4 y5 y6 y7 y8 y9 y10))
 | 0 => ⟨fun _ _ _ _ _ _ r h => by simp [impl_IsRelation.j0] at h, fun _ _ _ _ _ _ _ _ r h => by simp [impl_IsRelation.l0] at h, fun _ _ _ _ _ _ _ _ _ _ _ r h => by simp [impl_IsRelation.l1] at h⟩
 | k + 1 => by
  obtain ⟨ih0, ih1, ih2⟩ := impl_IsRelation.mono_l k
  refine ⟨?_, ?_, ?_⟩ <;> intros <;> first | unfold impl_IsRelation.j0 | unfold impl_IsRelation.l0 | unfold impl_IsRelation.l1
  all_goals repeat' (with_reducible first | exact ih0 _ _ _ _ _ _ | exact ih1 _ _ _ _ _ _ _ _ | exact ih2 _ _ _ _ _ _ _ _ _ _ _ | exact impl_power.mono _ _ _ | exact LeO.refl _ | exact LeO.none _ | refine LeO.ite ?_ ?_ | refine LeO.bind ?_ fun _ => ?_)
theorem impl_IsRelation.mono : ∀ a0 a1 a2 a3 k, LeO (impl_IsRelation.f k a0 a1 a2 a3) (impl_IsRelation.f (k + 1) a0 a1 a2 a3) := by
 intro a0 a1 a2 a3 k
 obtain ⟨ih0, ih1, ih2⟩ := impl_IsRelation.mono_l k
 unfold impl_IsRelation.f
 repeat' (with_reducible first | exact ih0 _ _ _ _ _ _ | exact ih1 _ _ _ _ _ _ _ _ | exact ih2 _ _ _ _ _ _ _ _ _ _ _ | exact impl_power.mono _ _ _ | exact LeO.refl _ | exact LeO.none _ | refine LeO.ite ?_ ?_ | refine LeO.bind ?_ fun _ => ?_)
set_option maxHeartbeats 8000000 in
set_option maxRecDepth 100000 in
theorem impl_IsRelation.calls (k : Nat) (a0_0 : Int) (a0_1 : Int) (A0_2 : Option Addr) (c0_2 : Nat) (l0_2 : List (List Int)) (A0_3 : Option Addr) (c0_3 : Nat) (l0_3 : List Bool) (r : Bool) (w : World) (hr0_2 : Kd.C (Kd.slice 3 (Kd.int .i64)) w A0_2 l0_2.length l0_2) (hc0_2 : l0_2.length ≤ c0_2) (hr0_3 : Kd.C Kd.bool w A0_3 l0_3.length l0_3) (hc0_3 : l0_3.length ≤ c0_3) (h : impl_IsRelation.f k a0_0 a0_1 l0_2 l0_3 = some r) :
  Calls Try.prog 65 #[.agg #[.int .i64 a0_0, .int .i64 a0_1, .slice A0_2 l0_2.length c0_2, .slice A0_3 l0_3.length c0_3]] w fun e w' => e = .returned (.bool r) ∧ Below w.heap.size w w' := by
 have hu25 := Try.underlying25
 have HR0_2 := yA hr0_2
 have HC0_2 := yA hc0_2
 clear hr0_2 hc0_2
 have HR0_3 := yA hr0_3
 have HC0_3 := yA hc0_3
 clear hr0_3 hc0_3
 have HB := yA (zV w.heap.size w)
 have H : ((impl_isSmallBase.f a0_0).bind fun t376 => (if t376 = true then (if a0_1 < 0 then (impl_IsRelation.j0 k (l0_2.length : Int) true a0_0 a0_1 l0_2 l0_3) else (if a0_1 > 3 then (impl_IsRelation.j0 k (l0_2.length : Int) true a0_0 a0_1 l0_2 l0_3) else (if (l0_2.length : Int) < 1 then (impl_IsRelation.j0 k (l0_2.length : Int) true a0_0 a0_1 l0_2 l0_3) else (if (l0_2.length : Int) > 48 then (impl_IsRelation.j0 k (l0_2.length : Int) true a0_0 a0_1 l0_2 l0_3) else (impl_IsRelation.j0 k (l0_2.length : Int) ((l0_3.length : Int) != (l0_2.length : Int)) a0_0 a0_1 l0_2 l0_3))))) else (impl_IsRelation.j0 k (l0_2.length : Int) true a0_0 a0_1 l0_2 l0_3))) = some r := h
 clear h
 have HC2 := yA H
 clear H
 go_enter Try.func65, Try.ntmps65
 go_upto_region 2 with (first | ((with_reducible refine gate_dst (N := 1) rfl ?_); refine box_event ?hg (N := 1) ?hd (cs := #[.int .i64 a0_0, .int .i64 a0_1, .slice A0_2 l0_2.length c0_2, .slice A0_3 l0_3.length c0_3]) (t := 25) ?hr ?_; (case hd => rfl); (case hg => rfl); (case hr => first | (go_simp; done) | (go_simp; rfl)); intro gb375 hg w3 hbox hb; have BK375 := yA (hbox); have GW375 := yA ((by rw [hg]; exact (yX (mB HB.out)) : w.heap.size ≤ gb375)); have GE375 := yA ((by rw [hg]; exact (yX (mB HB.out)) : w.heap.size ≤ gb375)); replace HB := yA (zD (mB HB.out) hb); clear hb hbox hg; have hcz4_0 : w3.cell? ⟨gb375, 0, none⟩ = some (.int .i64 a0_0) := (yV BK375.out 0).trans rfl; have hcz4_1 : w3.cell? ⟨gb375, 1, none⟩ = some (.int .i64 a0_1) := (yV BK375.out 1).trans rfl; have hcz4_2 : w3.cell? ⟨gb375, 2, none⟩ = some (.slice A0_2 l0_2.length c0_2) := (yV BK375.out 2).trans rfl; have hcz4_3 : w3.cell? ⟨gb375, 3, none⟩ = some (.slice A0_3 l0_3.length c0_3) := (yV BK375.out 3).trans rfl; have hfz4_0 := yW BK375.out 0; have hfz4_1 := yW BK375.out 1; have hfz4_2 := yW BK375.out 2; have hfz4_3 := yW BK375.out 3))
 (try simp only [Act.put, zA, zB, zC])
 go_cut [39] (fun v39 wc => ∃ (kq : Nat) (x39_1 : Bool), v39 = .bool x39_1 ∧ Aside0 (impl_IsRelation.j0 kq (l0_2.length : Int) x39_1 a0_0 a0_1 l0_2 l0_3 = some r) ∧ Aside0 (kq ≤ k) ∧ Aside0 (wc.heap[gb375]? = some (.cells #[.int .i64 a0_0, .int .i64 a0_1, (.slice A0_2 l0_2.length c0_2), (.slice A0_3 l0_3.length c0_3)] 25 (0, 0))) ∧ Aside0 (Below w.heap.size w wc))
 case first =>
  have H := HC2.out
  clear HC2
  obtain ⟨t376, A5, H⟩ := bE H
  by_cases c6 : t376 = true
  ·subst c6
   replace H := iT H
   by_cases c7 : a0_1 < 0
   ·rw [if_pos c7] at H
    have c7b0 : decide (a0_1 < 0) = true := zH c7
    clear c7
    (first | rw [c7b0] | (simp only [i64_w, i32_w]; rw [c7b0]) | skip)
    have H' := yA H
    clear H
    obtain ⟨hcz8_0, hcz8_1, hcz8_2, hcz8_3⟩ := cz4 BK375.out
    obtain ⟨hfz8_0, hfz8_1, hfz8_2, hfz8_3⟩ := fz4 BK375.out
    go_wp2_with (first | ((with_reducible refine zS (f := 58) rfl ?_); refine goesL_ (some 13) rfl rfl Try.func58 (by kernel_rfl) rfl #[.int .i64 a0_0] rfl (by (try simp only [zI, zJ, zK]); first | done | rfl | (simp only [zL, zM]; rfl)) ?_; (with_reducible refine (impl_isSmallBase.calls a0_0 true _ A5.out).mono ?_); rintro e w' ⟨rfl, ⟨nd, rfl⟩⟩; refine ⟨_, rfl, ?_⟩))
    go_meet
    case rel => exact ⟨_, (true), (by first | rfl | (simp; done) | (simp [*]; done)), H', ⟨by first | omega | exact zT _⟩, ⟨mK BK375.out⟩, ⟨by repeat (first | (with_reducible first | exact HB.out | apply yO | apply yN | apply yP | refine yQ ?_ GE375.out) | exact HB.out)⟩⟩
   ·rw [if_neg c7] at H
    have c7b0 : decide (a0_1 < 0) = false := decide_eq_false c7
    clear c7
    (first | rw [c7b0] | (simp only [i64_w, i32_w]; rw [c7b0]) | skip)
    by_cases c9 : a0_1 > 3
    ·rw [if_pos c9] at H
     have c9b0 : decide (3 < a0_1) = true := zH c9
     clear c9
     have H' := yA H
     clear H
     obtain ⟨hcz10_0, hcz10_1, hcz10_2, hcz10_3⟩ := cz4 BK375.out
     obtain ⟨hfz10_0, hfz10_1, hfz10_2, hfz10_3⟩ := fz4 BK375.out
     go_wp2_with (first | ((with_reducible refine zS (f := 58) rfl ?_); refine goesL_ (some 13) rfl rfl Try.func58 (by kernel_rfl) rfl #[.int .i64 a0_0] rfl (by (try simp only [zI, zJ, zK]); first | done | rfl | (simp only [zL, zM]; rfl)) ?_; (with_reducible refine (impl_isSmallBase.calls a0_0 true _ A5.out).mono ?_); rintro e w' ⟨rfl, ⟨nd, rfl⟩⟩; refine ⟨_, rfl, ?_⟩))
     go_meet
     case rel => exact ⟨_, (true), (by first | rfl | (simp; done) | (simp [*]; done)), H', ⟨by first | omega | exact zT _⟩, ⟨mK BK375.out⟩, ⟨by repeat (first | (with_reducible first | exact HB.out | apply yO | apply yN | apply yP | refine yQ ?_ GE375.out) | exact HB.out)⟩⟩
    ·rw [if_neg c9] at H
     have c9b0 : decide (3 < a0_1) = false := decide_eq_false c9
     clear c9
     by_cases c11 : (l0_2.length : Int) < 1
     ·rw [if_pos c11] at H
      have c11b0 : decide ((l0_2.length : Int) < 1) = true := zH c11
      have c11b1 : decide (l0_2.length < 1) = true := zH (by omega)
      clear c11
      have H' := yA H
      clear H
      obtain ⟨hcz12_0, hcz12_1, hcz12_2, hcz12_3⟩ := cz4 BK375.out
      obtain ⟨hfz12_0, hfz12_1, hfz12_2, hfz12_3⟩ := fz4 BK375.out
      go_wp2_with (first | ((with_reducible refine zS (f := 58) rfl ?_); refine goesL_ (some 13) rfl rfl Try.func58 (by kernel_rfl) rfl #[.int .i64 a0_0] rfl (by (try simp only [zI, zJ, zK]); first | done | rfl | (simp only [zL, zM]; rfl)) ?_; (with_reducible refine (impl_isSmallBase.calls a0_0 true _ A5.out).mono ?_); rintro e w' ⟨rfl, ⟨nd, rfl⟩⟩; refine ⟨_, rfl, ?_⟩))
      go_meet
      case rel => exact ⟨_, (true), (by first | rfl | (simp; done) | (simp [*]; done)), H', ⟨by first | omega | exact zT _⟩, ⟨mK BK375.out⟩, ⟨by repeat (first | (with_reducible first | exact HB.out | apply yO | apply yN | apply yP | refine yQ ?_ GE375.out) | exact HB.out)⟩⟩
     ·rw [if_neg c11] at H
      have c11b0 : decide ((l0_2.length : Int) < 1) = false := decide_eq_false c11
      have c11b1 : decide (l0_2.length < 1) = false := decide_eq_false (by omega)
      clear c11
      by_cases c13 : (l0_2.length : Int) > 48
      ·rw [if_pos c13] at H
       have c13b0 : decide (48 < (l0_2.length : Int)) = true := zH c13
       have c13b1 : decide (48 < l0_2.length) = true := zH (by omega)
       clear c13
       have H' := yA H
       clear H
       obtain ⟨hcz14_0, hcz14_1, hcz14_2, hcz14_3⟩ := cz4 BK375.out
       obtain ⟨hfz14_0, hfz14_1, hfz14_2, hfz14_3⟩ := fz4 BK375.out
       go_wp2_with (first | ((with_reducible refine zS (f := 58) rfl ?_); refine goesL_ (some 13) rfl rfl Try.func58 (by kernel_rfl) rfl #[.int .i64 a0_0] rfl (by (try simp only [zI, zJ, zK]); first | done | rfl | (simp only [zL, zM]; rfl)) ?_; (with_reducible refine (impl_isSmallBase.calls a0_0 true _ A5.out).mono ?_); rintro e w' ⟨rfl, ⟨nd, rfl⟩⟩; refine ⟨_, rfl, ?_⟩))
       go_meet
       case rel => exact ⟨_, (true), (by first | rfl | (simp; done) | (simp [*]; done)), H', ⟨by first | omega | exact zT _⟩, ⟨mK BK375.out⟩, ⟨by repeat (first | (with_reducible first | exact HB.out | apply yO | apply yN | apply yP | refine yQ ?_ GE375.out) | exact HB.out)⟩⟩
      ·rw [if_neg c13] at H
       have c13b0 : decide (48 < (l0_2.length : Int)) = false := decide_eq_false c13
       have c13b1 : decide (48 < l0_2.length) = false := decide_eq_false (by omega)
       clear c13
       have H' := yA H
       clear H
       obtain ⟨hcz15_0, hcz15_1, hcz15_2, hcz15_3⟩ := cz4 BK375.out
       obtain ⟨hfz15_0, hfz15_1, hfz15_2, hfz15_3⟩ := fz4 BK375.out
       go_wp2_with (first | ((with_reducible refine zS (f := 58) rfl ?_); refine goesL_ (some 13) rfl rfl Try.func58 (by kernel_rfl) rfl #[.int .i64 a0_0] rfl (by (try simp only [zI, zJ, zK]); first | done | rfl | (simp only [zL, zM]; rfl)) ?_; (with_reducible refine (impl_isSmallBase.calls a0_0 true _ A5.out).mono ?_); rintro e w' ⟨rfl, ⟨nd, rfl⟩⟩; refine ⟨_, rfl, ?_⟩))
       go_meet
       case rel => exact ⟨_, (((l0_3.length : Int) != (l0_2.length : Int))), (by first | rfl | (simp; done) | (simp [*]; done)), H', ⟨by first | omega | exact zT _⟩, ⟨mK BK375.out⟩, ⟨by repeat (first | (with_reducible first | exact HB.out | apply yO | apply yN | apply yP | refine yQ ?_ GE375.out) | exact HB.out)⟩⟩
  ·replace c6 := Bool.eq_false_iff.mpr c6
   subst c6
   replace H := iF H
   have H' := yA H
   clear H
   obtain ⟨hcz16_0, hcz16_1, hcz16_2, hcz16_3⟩ := cz4 BK375.out
   obtain ⟨hfz16_0, hfz16_1, hfz16_2, hfz16_3⟩ := fz4 BK375.out
   go_wp2_with (first | ((with_reducible refine zS (f := 58) rfl ?_); refine goesL_ (some 13) rfl rfl Try.func58 (by kernel_rfl) rfl #[.int .i64 a0_0] rfl (by (try simp only [zI, zJ, zK]); first | done | rfl | (simp only [zL, zM]; rfl)) ?_; (with_reducible refine (impl_isSmallBase.calls a0_0 false _ A5.out).mono ?_); rintro e w' ⟨rfl, ⟨nd, rfl⟩⟩; refine ⟨_, rfl, ?_⟩))
   go_meet
   case rel => exact ⟨_, (true), (by first | rfl | (simp; done) | (simp [*]; done)), H', ⟨by first | omega | exact zT _⟩, ⟨mK BK375.out⟩, ⟨by repeat (first | (with_reducible first | exact HB.out | apply yO | apply yN | apply yP | refine yQ ?_ GE375.out) | exact HB.out)⟩⟩
 case rest =>
  clear HC2
  (try clear c1);(try clear p2);(try clear c5);(try clear c6);(try clear c7);(try clear c7b0);(try clear c9);(try clear c9b0);(try clear c11);(try clear c11b0);(try clear c11b1);(try clear c13);(try clear c13b0);(try clear c13b1);(try clear hcz10_0);(try clear hcz10_1);(try clear hcz10_2);(try clear hcz10_3);(try clear hcz12_0);(try clear hcz12_1);(try clear hcz12_2);(try clear hcz12_3);(try clear hcz14_0);(try clear hcz14_1);(try clear hcz14_2);(try clear hcz14_3);(try clear hcz15_0);(try clear hcz15_1);(try clear hcz15_2);(try clear hcz15_3);(try clear hcz16_0);(try clear hcz16_1);(try clear hcz16_2);(try clear hcz16_3);(try clear hcz4_0);(try clear hcz4_1);(try clear hcz4_2);(try clear hcz4_3);(try clear hcz8_0);(try clear hcz8_1);(try clear hcz8_2);(try clear hcz8_3);(try clear hfz10_0);(try clear hfz10_1);(try clear hfz10_2);(try clear hfz10_3);(try clear hfz12_0);(try clear hfz12_1);(try clear hfz12_2);(try clear hfz12_3);(try clear hfz14_0);(try clear hfz14_1);(try clear hfz14_2);(try clear hfz14_3);(try clear hfz15_0);(try clear hfz15_1);(try clear hfz15_2);(try clear hfz15_3);(try clear hfz16_0);(try clear hfz16_1);(try clear hfz16_2);(try clear hfz16_3);(try clear hfz4_0);(try clear hfz4_1);(try clear hfz4_2);(try clear hfz4_3);(try clear hfz8_0);(try clear hfz8_1);(try clear hfz8_2);(try clear hfz8_3)
  obtain ⟨kq, x39_1, rfl, HA, HJ1, BK375, HB⟩ := hcut
  cases kq with
  | zero => exact absurd HA.out (by simp [impl_IsRelation.j0])
  | succ kj1 =>
   have H := HA.out
   clear HA
   simp only [impl_IsRelation.j0] at H
   by_cases c17 : x39_1 = true
   ·subst c17
    replace H := iT H
    obtain rfl := zU H
    go_wp2
    go_ret
    exact ⟨by first | rfl | (simp [errW_none, errW_some] <;> rfl) | (simp [*, errW_none, errW_some] <;> rfl), by repeat (first | (with_reducible first | exact HB.out | apply yO | apply yN | apply yP | refine yQ ?_ GE375.out) | exact HB.out)⟩
   ·replace c17 := Bool.eq_false_iff.mpr c17
    subst c17
    replace H := iF H
    have H' := yA H
    clear H
    obtain ⟨hcz18_0, hcz18_1, hcz18_2, hcz18_3⟩ := cz4 BK375.out
    obtain ⟨hfz18_0, hfz18_1, hfz18_2, hfz18_3⟩ := fz4 BK375.out
    go_wp2
    go_loopg [43] kj1 (fun kq v43 w' => ∃ (x43_2 : Int), v43 = .int .i64 x43_2 ∧ Aside0 (impl_IsRelation.l0 kq (l0_2.length : Int) l0_2 (l0_2.length : Int) x43_2 a0_0 a0_1 l0_2 l0_3 = some r) ∧ Aside0 (kq ≤ kj1) ∧ Aside0 (w'.heap[gb375]? = some (.cells #[.int .i64 a0_0, .int .i64 a0_1, (.slice A0_2 l0_2.length c0_2), (.slice A0_3 l0_3.length c0_3)] 25 (0, 0))) ∧ Aside0 (Below w.heap.size w w'))
    case atStart => exact ⟨(0), (by first | rfl | (simp; done) | (simp [*]; done)), H', ⟨zT _⟩, ⟨mK BK375.out⟩, ⟨by repeat (first | (with_reducible first | exact HB.out | apply yO | apply yN | apply yP | refine yQ ?_ GE375.out) | exact HB.out)⟩⟩
    case round =>
     clear H'
     (try clear c1);(try clear p2);(try clear c5);(try clear c6);(try clear c7);(try clear c7b0);(try clear c9);(try clear c9b0);(try clear c11);(try clear c11b0);(try clear c11b1);(try clear c13);(try clear c13b0);(try clear c13b1);(try clear c17);(try clear hcz10_0);(try clear hcz10_1);(try clear hcz10_2);(try clear hcz10_3);(try clear hcz12_0);(try clear hcz12_1);(try clear hcz12_2);(try clear hcz12_3);(try clear hcz14_0);(try clear hcz14_1);(try clear hcz14_2);(try clear hcz14_3);(try clear hcz15_0);(try clear hcz15_1);(try clear hcz15_2);(try clear hcz15_3);(try clear hcz16_0);(try clear hcz16_1);(try clear hcz16_2);(try clear hcz16_3);(try clear hcz18_0);(try clear hcz18_1);(try clear hcz18_2);(try clear hcz18_3);(try clear hcz4_0);(try clear hcz4_1);(try clear hcz4_2);(try clear hcz4_3);(try clear hcz8_0);(try clear hcz8_1);(try clear hcz8_2);(try clear hcz8_3);(try clear hfz10_0);(try clear hfz10_1);(try clear hfz10_2);(try clear hfz10_3);(try clear hfz12_0);(try clear hfz12_1);(try clear hfz12_2);(try clear hfz12_3);(try clear hfz14_0);(try clear hfz14_1);(try clear hfz14_2);(try clear hfz14_3);(try clear hfz15_0);(try clear hfz15_1);(try clear hfz15_2);(try clear hfz15_3);(try clear hfz16_0);(try clear hfz16_1);(try clear hfz16_2);(try clear hfz16_3);(try clear hfz18_0);(try clear hfz18_1);(try clear hfz18_2);(try clear hfz18_3);(try clear hfz4_0);(try clear hfz4_1);(try clear hfz4_2);(try clear hfz4_3);(try clear hfz8_0);(try clear hfz8_1);(try clear hfz8_2);(try clear hfz8_3);(try clear p2)
     obtain ⟨x43_2, rfl, HA, HK2, BK375, HB⟩ := hrel
     cases gk with
     | zero => exact absurd HA.out (by simp [impl_IsRelation.l0])
     | succ k2 =>
      have H := HA.out
      clear HA
      simp only [impl_IsRelation.l0] at H
      by_cases c19 : x43_2 < (l0_2.length : Int)
      ·rw [if_pos c19] at H
       have c19b0 : decide (x43_2 < (l0_2.length : Int)) = true := zH c19
       clear c19
       obtain ⟨c20, H⟩ := iP H
       have c20b0 : decide (0 ≤ x43_2) = true := zH c20
       clear c20
       obtain ⟨c21, H⟩ := iP H
       have c21b0 : decide (x43_2 < (l0_2.length : Int)) = true := zH c21
       clear c21
       obtain ⟨t380, A22, H⟩ := bE H
       by_cases c23 : ((rd_L1 l0_2 x43_2).length : Int) = t380
       ·rw [if_pos c23] at H
        have c23b0 : (((rd_L1 l0_2 x43_2).length : Int) == t380) = true := beq_iff_eq.mpr c23
        have c23b1 : (((rd_L1 l0_2 x43_2).length : Int) != t380) = false := bne_eq_false_iff_eq.mpr c23
        clear c23
        have H' := yA H
        clear H
        have p379 : 0 ≤ (x43_2 : Int) := zG (by assumption)
        have q379 : x43_2 < (l0_2.length : Int) := zG (by assumption)
        obtain ⟨ad379, A379_0, c379_0, e379, hx379_0, hl379_0, hi379_0⟩ := at_L1 HR0_2.out x43_2 p379 q379
        cases e379
        try replace hx379_0 := (HB.out.cell (zE w _ hx379_0)).trans hx379_0
        have HR379_0 := yA hi379_0
        have HC379_0 := yA hl379_0
        clear hi379_0 hl379_0
        replace p379 := eq_true p379
        replace q379 := eq_true q379
        obtain ⟨hcz24_0, hcz24_1, hcz24_2, hcz24_3⟩ := cz4 BK375.out
        obtain ⟨hfz24_0, hfz24_1, hfz24_2, hfz24_3⟩ := fz4 BK375.out
        go_wp2_with (first | ((with_reducible refine zS (f := 90) rfl ?_); refine goesL_ (some 53) rfl rfl Try.func90 (by kernel_rfl) rfl #[.int .i64 a0_0, .int .i64 a0_1] rfl (by (try simp only [zI, zJ, zK]); first | done | rfl | (simp only [zL, zM]; rfl)) ?_; (with_reducible refine (impl_power.calls k2 a0_0 a0_1 t380 _ A22.out).mono ?_); rintro e w' ⟨rfl, ⟨nd, rfl⟩⟩; refine ⟨_, rfl, ?_⟩))
        go_loopg [57] k2 (fun kq v57 w' => ∃ (x57_3 : Int), v57 = .int .i64 x57_3 ∧ Aside0 (impl_IsRelation.l1 kq (l0_2.length : Int) l0_2 (l0_2.length : Int) x43_2 (rd_L1 l0_2 x43_2) ((rd_L1 l0_2 x43_2).length : Int) x57_3 a0_0 a0_1 l0_2 l0_3 = some r) ∧ Aside0 (kq ≤ k2) ∧ Aside0 (w'.heap[gb375]? = some (.cells #[.int .i64 a0_0, .int .i64 a0_1, (.slice (some ad379) l0_2.length c0_2), (.slice A0_3 l0_3.length c0_3)] 25 (0, 0))) ∧ Aside0 (Below w.heap.size w w'))
        case atStart => exact ⟨(0), (by first | rfl | (simp; done) | (simp [*]; done)), H', ⟨zT _⟩, ⟨mK BK375.out⟩, ⟨by repeat (first | (with_reducible first | exact HB.out | apply yO | apply yN | apply yP | refine yQ ?_ GE375.out) | exact HB.out)⟩⟩
        case round =>
         clear H'
         (try clear c1);(try clear c2);(try clear p2);(try clear c3);(try clear p3);(try clear q3);(try clear hx3);(try clear c5);(try clear c6);(try clear c7);(try clear c7b0);(try clear c9);(try clear c9b0);(try clear c11);(try clear c11b0);(try clear c11b1);(try clear c13);(try clear c13b0);(try clear c13b1);(try clear c17);(try clear c19);(try clear c19b0);(try clear c20);(try clear c20b0);(try clear c21);(try clear c21b0);(try clear c23);(try clear c23b0);(try clear c23b1);(try clear hcz10_0);(try clear hcz10_1);(try clear hcz10_2);(try clear hcz10_3);(try clear hcz12_0);(try clear hcz12_1);(try clear hcz12_2);(try clear hcz12_3);(try clear hcz14_0);(try clear hcz14_1);(try clear hcz14_2);(try clear hcz14_3);(try clear hcz15_0);(try clear hcz15_1);(try clear hcz15_2);(try clear hcz15_3);(try clear hcz16_0);(try clear hcz16_1);(try clear hcz16_2);(try clear hcz16_3);(try clear hcz18_0);(try clear hcz18_1);(try clear hcz18_2);(try clear hcz18_3);(try clear hcz24_0);(try clear hcz24_1);(try clear hcz24_2);(try clear hcz24_3);(try clear hcz4_0);(try clear hcz4_1);(try clear hcz4_2);(try clear hcz4_3);(try clear hcz8_0);(try clear hcz8_1);(try clear hcz8_2);(try clear hcz8_3);(try clear hfz10_0);(try clear hfz10_1);(try clear hfz10_2);(try clear hfz10_3);(try clear hfz12_0);(try clear hfz12_1);(try clear hfz12_2);(try clear hfz12_3);(try clear hfz14_0);(try clear hfz14_1);(try clear hfz14_2);(try clear hfz14_3);(try clear hfz15_0);(try clear hfz15_1);(try clear hfz15_2);(try clear hfz15_3);(try clear hfz16_0);(try clear hfz16_1);(try clear hfz16_2);(try clear hfz16_3);(try clear hfz18_0);(try clear hfz18_1);(try clear hfz18_2);(try clear hfz18_3);(try clear hfz24_0);(try clear hfz24_1);(try clear hfz24_2);(try clear hfz24_3);(try clear hfz4_0);(try clear hfz4_1);(try clear hfz4_2);(try clear hfz4_3);(try clear hfz8_0);(try clear hfz8_1);(try clear hfz8_2);(try clear hfz8_3);(try clear hx379_0);(try clear p2);(try clear p379);(try clear q379)
         obtain ⟨x57_3, rfl, HA, HK3, BK375, HB⟩ := hrel
         cases gk with
         | zero => exact absurd HA.out (by simp [impl_IsRelation.l1])
         | succ k3 =>
          have H := HA.out
          clear HA
          simp only [impl_IsRelation.l1] at H
          by_cases c25 : x57_3 < ((rd_L1 l0_2 x43_2).length : Int)
          ·rw [if_pos c25] at H
           have c25b0 : decide (x57_3 < ((rd_L1 l0_2 x43_2).length : Int)) = true := zH c25
           clear c25
           obtain ⟨c26, H⟩ := iP H
           have c26b0 : decide (0 ≤ x57_3) = true := zH c26
           clear c26
           obtain ⟨c27, H⟩ := iP H
           have c27b0 : decide (x57_3 < ((rd_L1 l0_2 x43_2).length : Int)) = true := zH c27
           clear c27
           by_cases c28 : (rd (rd_L1 l0_2 x43_2) x57_3) < 0
           ·rw [if_pos c28] at H
            have c28b0 : decide ((rd (rd_L1 l0_2 x43_2) x57_3) < 0) = true := zH c28
            clear c28
            obtain rfl := zU H
            have p381 : 0 ≤ (x57_3 : Int) := zG (by assumption)
            have q381 : x57_3 < ((rd_L1 l0_2 x43_2).length : Int) := zG (by assumption)
            obtain ⟨ad381, e381, hx381_0⟩ := Kd.at_int HR379_0.out x57_3 p381 q381
            cases e381
            try replace hx381_0 := (HB.out.cell (zE w _ hx381_0)).trans hx381_0
            replace p381 := eq_true p381
            replace q381 := eq_true q381
            go_wp2
            go_ret
            exact ⟨by first | rfl | (simp [errW_none, errW_some] <;> rfl) | (simp [*, errW_none, errW_some] <;> rfl), by repeat (first | (with_reducible first | exact HB.out | apply yO | apply yN | apply yP | refine yQ ?_ GE375.out) | exact HB.out)⟩
           ·rw [if_neg c28] at H
            have c28b0 : decide ((rd (rd_L1 l0_2 x43_2) x57_3) < 0) = false := decide_eq_false c28
            clear c28
            by_cases c29 : (rd (rd_L1 l0_2 x43_2) x57_3) ≥ (l0_2.length : Int)
            ·rw [if_pos c29] at H
             have c29b0 : decide ((l0_2.length : Int) ≤ (rd (rd_L1 l0_2 x43_2) x57_3)) = true := zH c29
             clear c29
             obtain rfl := zU H
             have p381 : 0 ≤ (x57_3 : Int) := zG (by assumption)
             have q381 : x57_3 < ((rd_L1 l0_2 x43_2).length : Int) := zG (by assumption)
             obtain ⟨ad381, e381, hx381_0⟩ := Kd.at_int HR379_0.out x57_3 p381 q381
             cases e381
             try replace hx381_0 := (HB.out.cell (zE w _ hx381_0)).trans hx381_0
             replace p381 := eq_true p381
             replace q381 := eq_true q381
             go_wp2
             go_ret
             exact ⟨by first | rfl | (simp [errW_none, errW_some] <;> rfl) | (simp [*, errW_none, errW_some] <;> rfl), by repeat (first | (with_reducible first | exact HB.out | apply yO | apply yN | apply yP | refine yQ ?_ GE375.out) | exact HB.out)⟩
            ·rw [if_neg c29] at H
             have c29b0 : decide ((l0_2.length : Int) ≤ (rd (rd_L1 l0_2 x43_2) x57_3)) = false := decide_eq_false c29
             clear c29
             have H' := yA H
             clear H
             have p381 : 0 ≤ (x57_3 : Int) := zG (by assumption)
             have q381 : x57_3 < ((rd_L1 l0_2 x43_2).length : Int) := zG (by assumption)
             obtain ⟨ad381, e381, hx381_0⟩ := Kd.at_int HR379_0.out x57_3 p381 q381
             cases e381
             try replace hx381_0 := (HB.out.cell (zE w _ hx381_0)).trans hx381_0
             replace p381 := eq_true p381
             replace q381 := eq_true q381
             go_wp2
             go_roundg k3
             case measure => have := HJ1.out; have := HK2.out; have := HK3.out; omega
             case rel => exact ⟨(wrap64 (x57_3 + 1)), (by first | rfl | (simp; done) | (simp [*]; done)), H', ⟨by have := HJ1.out; have := HK2.out; have := HK3.out; omega⟩, ⟨mK BK375.out⟩, ⟨by repeat (first | (with_reducible first | exact HB.out | apply yO | apply yN | apply yP | refine yQ ?_ GE375.out) | exact HB.out)⟩⟩
          ·rw [if_neg c25] at H
           have c25b0 : decide (x57_3 < ((rd_L1 l0_2 x43_2).length : Int)) = false := decide_eq_false c25
           clear c25
           have H' := yA H
           clear H
           go_wp2
           go_roundg k3
           case measure => have := HJ1.out; have := HK2.out; have := HK3.out; omega
           case rel => exact ⟨(wrap64 (x43_2 + 1)), (by first | rfl | (simp; done) | (simp [*]; done)), H', ⟨by have := HJ1.out; have := HK2.out; have := HK3.out; omega⟩, ⟨mK BK375.out⟩, ⟨by repeat (first | (with_reducible first | exact HB.out | apply yO | apply yN | apply yP | refine yQ ?_ GE375.out) | exact HB.out)⟩⟩
       ·rw [if_neg c23] at H
        have c23b0 : (((rd_L1 l0_2 x43_2).length : Int) == t380) = false := beq_eq_false_iff_ne.mpr c23
        have c23b1 : (((rd_L1 l0_2 x43_2).length : Int) != t380) = true := bne_iff_ne.mpr c23
        obtain rfl := zU H
        have p379 : 0 ≤ (x43_2 : Int) := zG (by assumption)
        have q379 : x43_2 < (l0_2.length : Int) := zG (by assumption)
        obtain ⟨ad379, A379_0, c379_0, e379, hx379_0, hl379_0, hi379_0⟩ := at_L1 HR0_2.out x43_2 p379 q379
        cases e379
        try replace hx379_0 := (HB.out.cell (zE w _ hx379_0)).trans hx379_0
        have HR379_0 := yA hi379_0
        have HC379_0 := yA hl379_0
        clear hi379_0 hl379_0
        replace p379 := eq_true p379
        replace q379 := eq_true q379
        obtain ⟨hcz30_0, hcz30_1, hcz30_2, hcz30_3⟩ := cz4 BK375.out
        obtain ⟨hfz30_0, hfz30_1, hfz30_2, hfz30_3⟩ := fz4 BK375.out
        go_wp2_with (first | ((with_reducible refine zS (f := 90) rfl ?_); refine goesL_ (some 53) rfl rfl Try.func90 (by kernel_rfl) rfl #[.int .i64 a0_0, .int .i64 a0_1] rfl (by (try simp only [zI, zJ, zK]); first | done | rfl | (simp only [zL, zM]; rfl)) ?_; (with_reducible refine (impl_power.calls k2 a0_0 a0_1 t380 _ A22.out).mono ?_); rintro e w' ⟨rfl, ⟨nd, rfl⟩⟩; refine ⟨_, rfl, ?_⟩))
        go_ret
        exact ⟨by first | rfl | (simp [errW_none, errW_some] <;> rfl) | (simp [*, errW_none, errW_some] <;> rfl), by repeat (first | (with_reducible first | exact HB.out | apply yO | apply yN | apply yP | refine yQ ?_ GE375.out) | exact HB.out)⟩
      ·rw [if_neg c19] at H
       have c19b0 : decide (x43_2 < (l0_2.length : Int)) = false := decide_eq_false c19
       clear c19
       obtain ⟨c31, H⟩ := iP H
       have c31b0 : decide (0 < (l0_2.length : Int)) = true := zH c31
       have c31b1 : decide (0 < l0_2.length) = true := zH (by omega)
       clear c31
       obtain ⟨c32, H⟩ := iP H
       have c32b0 : decide (0 < ((rd_L1 l0_2 0).length : Int)) = true := zH c32
       have c32b1 : decide (0 < (rd_L1 l0_2 0).length) = true := zH (by omega)
       clear c32
       obtain rfl := zU H
       obtain ⟨hcz33_0, hcz33_1, hcz33_2, hcz33_3⟩ := cz4 BK375.out
       obtain ⟨hfz33_0, hfz33_1, hfz33_2, hfz33_3⟩ := fz4 BK375.out
       have p377 : 0 ≤ (0 : Int) := (by omega)
       have q377 : 0 < (l0_2.length : Int) := zG (by assumption)
       obtain ⟨ad377, A377_0, c377_0, e377, hx377_0, hl377_0, hi377_0⟩ := at_L1 HR0_2.out 0 p377 q377
       cases e377
       have qi377 : (0 < l0_2.length) = True := eq_true (by omega)
       (try rw [show ((0 : Int)).toNat = 0 from rfl] at hx377_0)
       (try rw [Addr.add_zero'] at hx377_0)
       try replace hx377_0 := (HB.out.cell (zE w _ hx377_0)).trans hx377_0
       have HR377_0 := yA hi377_0
       have HC377_0 := yA hl377_0
       clear hi377_0 hl377_0
       replace p377 := eq_true p377
       replace q377 := eq_true q377
       have p378 : 0 ≤ (0 : Int) := (by omega)
       have q378 : 0 < ((rd_L1 l0_2 0).length : Int) := zG (by assumption)
       obtain ⟨ad378, e378, hx378_0⟩ := Kd.at_int HR377_0.out 0 p378 q378
       cases e378
       have qi378 : (0 < (rd_L1 l0_2 0).length) = True := eq_true (by omega)
       (try rw [show ((0 : Int)).toNat = 0 from rfl] at hx378_0)
       (try rw [Addr.add_zero'] at hx378_0)
       try replace hx378_0 := (HB.out.cell (zE w _ hx378_0)).trans hx378_0
       replace p378 := eq_true p378
       replace q378 := eq_true q378
       go_wp2
       go_ret
       exact ⟨by first | rfl | (simp [errW_none, errW_some] <;> rfl) | (simp [*, errW_none, errW_some] <;> rfl), by repeat (first | (with_reducible first | exact HB.out | apply yO | apply yN | apply yP | refine yQ ?_ GE375.out) | exact HB.out)⟩

end Go.Proofs.Ytgopcliohchkmaa.Q
