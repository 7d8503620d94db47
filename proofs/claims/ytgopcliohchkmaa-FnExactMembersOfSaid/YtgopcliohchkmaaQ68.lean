-- written by a program of this session
-- squeezed
-- compact
-- shrunk
import Derived.Test.YtgopcliohchkmaaQ0
import Derived.Test.YtgopcliohchkmaaQ1
import Derived.Test.YtgopcliohchkmaaQ29
import Derived.Test.YtgopcliohchkmaaQ31
import Derived.Test.YtgopcliohchkmaaQ53
import Derived.Test.YtgopcliohchkmaaQ67
namespace Go.Proofs.Ytgopcliohchkmaa.Q
open Go.RowKit Go.Proofs.YtgopcliohchkmaaW.PrintWords Go.Proofs.YtgopcliohchkmaaW.PrintLast Go.Proofs.YtgopcliohchkmaaW.PrintMore
set_option linter.unusedVariables false
set_option linter.unusedSimpArgs false

/-! ### spec_MembersOf: function 38 -/
mutual
def spec_MembersOf.j0 : Nat → Int → List (List Int) → Bool → Int → Int → List (List Int) → List Bool → Option ((List (List Int)) × Bool)
 | 0, _, _, _, _, _, _, _ => none
 | k + 1, x1, x6, x31, x761000, x761001, x761002, x761003 => if x31 = true then (some (x6, false)) else (spec_MembersOf.l0 k x1 x6 0 x761000 x761001 x761002 x761003)
def spec_MembersOf.l0 : Nat → Int → List (List Int) → Int → Int → Int → List (List Int) → List Bool → Option ((List (List Int)) × Bool)
 | 0, _, _, _, _, _, _, _ => none
 | k + 1, x1, x6, x7, x761000, x761001, x761002, x761003 => (spec_l11Power.f k (wrap64 (x1 + 1)) x761001).bind fun t766 => (if x7 < t766 then ((spec_l11Word.f k (wrap64 (x1 + 1)) x761001 x7).bind fun t767 => ((spec_Contains.f k x761000 x761001 x761002 x761003 t767).bind fun t770 => (if t770 = true then (if x6.length < 5864062014805 then (spec_MembersOf.l0 k x1 (x6 ++ [t767]) (wrap64 (x7 + 1)) x761000 x761001 x761002 x761003) else (none)) else (spec_MembersOf.l0 k x1 x6 (wrap64 (x7 + 1)) x761000 x761001 x761002 x761003)))) else (some (x6, true)))
end
def spec_MembersOf.f (k : Nat) (a0_0 : Int) (a0_1 : Int) (l0_2 : List (List Int)) (l0_3 : List Bool) (a1 : Int) : Option ((List (List Int)) × Bool) := (some (([] : List (List Int)) : List (List Int))).bind fun y761 => ((spec_IsRelation.f k a0_0 a0_1 l0_2 l0_3).bind fun t764 => (if t764 = true then (if a0_1 < 1 then (spec_MembersOf.j0 k a1 y761 true a0_0 a0_1 l0_2 l0_3) else ((spec_l1In.f a1 0 20).bind fun t765 => (if t765 = true then (if a0_1 = 3 then (spec_MembersOf.j0 k a1 y761 (decide (a1 > 7)) a0_0 a0_1 l0_2 l0_3) else (spec_MembersOf.j0 k a1 y761 false a0_0 a0_1 l0_2 l0_3)) else (spec_MembersOf.j0 k a1 y761 true a0_0 a0_1 l0_2 l0_3)))) else (spec_MembersOf.j0 k a1 y761 true a0_0 a0_1 l0_2 l0_3)))
theorem spec_MembersOf.mono_l : ∀ k, (∀ y0 y1 y2 y3 y4 y5 y6, LeO (spec_MembersOf.j0 k y0 y1 y2 y3 y4 y5 y6) (spec_MembersOf.j0 (k + 1) y0 y1 y2 y3 y4 y5 y6)) ∧ (∀ y0 y1 y2 y3 y4 y5 y6, LeO (spec_MembersOf.l0 k y0 y1 y2 y3 y4 y5 y6) (spec_MembersOf.l0 (k + 1) y0 y1 y2 y3 y4 y5 y6))
 | 0 => ⟨fun _ _ _ _ _ _ _ r h => by simp [spec_MembersOf.j0] at h, fun _ _ _ _ _ _ _ r h => by simp [spec_MembersOf.l0] at h⟩
 | k + 1 => by
  obtain ⟨ih0, ih1⟩ := spec_MembersOf.mono_l k
  refine ⟨?_, ?_⟩ <;> intros <;> first | unfold spec_MembersOf.j0 | unfold spec_MembersOf.l0
  all_goals repeat' (with_reducible first | exact ih0 _ _ _ _ _ _ _ | exact ih1 _ _ _ _ _ _ _ | exact spec_Contains.mono _ _ _ _ _ _ | exact spec_IsRelation.mono _ _ _ _ _ | exact spec_l11Power.mono _ _ _ | exact spec_l11Word.mono _ _ _ _ | exact LeO.refl _ | exact LeO.none _ | refine LeO.ite ?_ ?_ | refine LeO.bind ?_ fun _ => ?_)
theorem spec_MembersOf.mono : ∀ a0 a1 a2 a3 a4 k, LeO (spec_MembersOf.f k a0 a1 a2 a3 a4) (spec_MembersOf.f (k + 1) a0 a1 a2 a3 a4) := by
 intro a0 a1 a2 a3 a4 k
 obtain ⟨ih0, ih1⟩ := spec_MembersOf.mono_l k
 unfold spec_MembersOf.f
 repeat' (with_reducible first | exact ih0 _ _ _ _ _ _ _ | exact ih1 _ _ _ _ _ _ _ | exact spec_Contains.mono _ _ _ _ _ _ | exact spec_IsRelation.mono _ _ _ _ _ | exact spec_l11Power.mono _ _ _ | exact spec_l11Word.mono _ _ _ _ | exact LeO.refl _ | exact LeO.none _ | refine LeO.ite ?_ ?_ | refine LeO.bind ?_ fun _ => ?_)
set_option maxHeartbeats 8000000 in
set_option maxRecDepth 100000 in
theorem spec_MembersOf.calls (k : Nat) (a0_0 : Int) (a0_1 : Int) (A0_2 : Option Addr) (c0_2 : Nat) (l0_2 : List (List Int)) (A0_3 : Option Addr) (c0_3 : Nat) (l0_3 : List Bool) (a1 : Int) (r1 : List (List Int)) (r2 : Bool) (w : World) (hr0_2 : Kd.C (Kd.slice 3 (Kd.int .i64)) w A0_2 l0_2.length l0_2) (hc0_2 : l0_2.length ≤ c0_2) (hr0_3 : Kd.C Kd.bool w A0_3 l0_3.length l0_3) (hc0_3 : l0_3.length ≤ c0_3) (h : spec_MembersOf.f k a0_0 a0_1 l0_2 l0_3 a1 = some (r1, r2)) :
  Calls Try.prog 38 #[.agg #[.int .i64 a0_0, .int .i64 a0_1, .slice A0_2 l0_2.length c0_2, .slice A0_3 l0_3.length c0_3], .int .i64 a1] w fun e w' => ∃ v0_ : Value, e = .returned (.tuple #[v0_, .bool r2]) ∧ Kd.S (Kd.slice 3 (Kd.int .i64)) 38 w' w.heap.size (fun _ => True) v0_ r1 ∧ Below w.heap.size w w' := by
 have hu25 := Try.underlying25
 have HR0_2 := yA hr0_2
 have HC0_2 := yA hc0_2
 clear hr0_2 hc0_2
 have HR0_3 := yA hr0_3
 have HC0_3 := yA hc0_3
 clear hr0_3 hc0_3
 have HB := yA (zV w.heap.size w)
 have H : ((some (([] : List (List Int)) : List (List Int))).bind fun y761 => ((spec_IsRelation.f k a0_0 a0_1 l0_2 l0_3).bind fun t764 => (if t764 = true then (if a0_1 < 1 then (spec_MembersOf.j0 k a1 y761 true a0_0 a0_1 l0_2 l0_3) else ((spec_l1In.f a1 0 20).bind fun t765 => (if t765 = true then (if a0_1 = 3 then (spec_MembersOf.j0 k a1 y761 (decide (a1 > 7)) a0_0 a0_1 l0_2 l0_3) else (spec_MembersOf.j0 k a1 y761 false a0_0 a0_1 l0_2 l0_3)) else (spec_MembersOf.j0 k a1 y761 true a0_0 a0_1 l0_2 l0_3)))) else (spec_MembersOf.j0 k a1 y761 true a0_0 a0_1 l0_2 l0_3)))) = some (r1, r2) := h
 clear h
 (first | ((with_reducible replace H := bS H); obtain ⟨y761, Ny761, H⟩ := H) | (obtain ⟨y761, Ny761⟩ : ∃ y_ : List (List Int), y_ = (([] : List (List Int))) := ⟨_, rfl⟩; rw [← Ny761] at H; replace Ny761 := yA Ny761))
 have HC3 := yA H
 clear H
 go_enter Try.func38, Try.ntmps38
 go_upto_region 2 with (first | ((with_reducible refine gate_dst (N := 2) rfl ?_); refine box_event ?hg (N := 2) ?hd (cs := #[.int .i64 a0_0, .int .i64 a0_1, .slice A0_2 l0_2.length c0_2, .slice A0_3 l0_3.length c0_3]) (t := 25) ?hr ?_; (case hd => rfl); (case hg => rfl); (case hr => first | (go_simp; done) | (go_simp; rfl)); intro gb760 hg w4 hbox hb; have BK760 := yA (hbox); have GW760 := yA ((by rw [hg]; exact (yX (mB HB.out)) : w.heap.size ≤ gb760)); have GE760 := yA ((by rw [hg]; exact (yX (mB HB.out)) : w.heap.size ≤ gb760)); replace HB := yA (zD (mB HB.out) hb); clear hb hbox hg) | ((with_reducible refine gate_dst (N := 9) rfl ?_); refine Kd.S_lit (Kd.slice 3 (Kd.int .i64)) _ 38 ?hg (N := 9) ?hd (xs := ([] : List (List Int))) (inner := []) (ok := fun _ => True) (okp := fun _ => True) ?hr ?hp (fun _ hk => hk) trivial (zV _ _) (zT _) (by simp) ?_; (case hd => rfl); (case hg => rfl); (case hr => first | (go_simp; done) | (go_simp; rfl)); (case hp => exact (Reps.none _ _)); intro v762 w5 ho6 hb hg_ hnew_; clear hg_ hnew_; (first | rw [← Ny761.out] at ho6 | (simp only [Int.reduceToNat] at ho6; rw [← Ny761.out] at ho6)); have HO763 := yA (Kd.S_lower ho6 (yX (by with_reducible repeat first | exact HB.out | apply yO | apply yN | apply yP | refine yQ ?_ GE760.out))); replace BK760 := yA (yU (mK BK760.out) hb); replace HB := yA (zD (by with_reducible repeat first | exact HB.out | apply yO | apply yN | apply yP | refine yQ ?_ GE760.out) hb); clear hb ho6))
 (try simp only [Act.put, zA, zB, zC])
 go_cut [31] (fun v31 wc => ∃ (kq : Nat) (x31_2 : Bool), v31 = .bool x31_2 ∧ Aside0 (spec_MembersOf.j0 kq a1 y761 x31_2 a0_0 a0_1 l0_2 l0_3 = some (r1, r2)) ∧ Aside0 (kq ≤ k) ∧ Aside0 (Kd.S (Kd.slice 3 (Kd.int .i64)) 38 wc w.heap.size (fun _ => True) v762 y761) ∧ Aside0 (wc.heap[gb760]? = some (.cells #[.int .i64 a0_0, .int .i64 a0_1, (.slice A0_2 l0_2.length c0_2), (.slice A0_3 l0_3.length c0_3)] 25 (0, 0))) ∧ Aside0 (Below w.heap.size w wc))
 case first =>
  have H := HC3.out
  clear HC3
  obtain ⟨t764, A7, H⟩ := bE H
  by_cases c8 : t764 = true
  ·subst c8
   replace H := iT H
   by_cases c9 : a0_1 < 1
   ·rw [if_pos c9] at H
    have c9b0 : decide (a0_1 < 1) = true := zH c9
    clear c9
    (first | rw [c9b0] | (simp only [i64_w, i32_w]; rw [c9b0]) | skip)
    have H' := yA H
    clear H
    obtain ⟨hcz10_0, hcz10_1, hcz10_2, hcz10_3⟩ := cz4 BK760.out
    obtain ⟨hfz10_0, hfz10_1, hfz10_2, hfz10_3⟩ := fz4 BK760.out
    go_wp2_with (first | ((with_reducible refine zS (f := 67) rfl ?_); refine goesL_ (some 11) rfl rfl Try.func67 (by kernel_rfl) rfl #[.agg #[.int .i64 a0_0, .int .i64 a0_1, .slice A0_2 l0_2.length c0_2, .slice A0_3 l0_3.length c0_3]] rfl (by (try simp only [zI, zJ, zK]); first | done | rfl | (simp only [zL, zM]; rfl)) ?_; (with_reducible refine (spec_IsRelation.calls k a0_0 a0_1 _ _ l0_2 _ _ l0_3 true _ ?side1 ?side2 ?side3 ?side4 A7.out).mono ?_); (case side1 => exact mC (yM HR0_2.out HB.out)); (case side2 => exact HC0_2.out); (case side3 => exact mC (yM HR0_3.out HB.out)); (case side4 => exact HC0_3.out); rintro e w11 ⟨rfl, hb⟩; refine ⟨_, rfl, ?_⟩; replace HO763 := yA (yL (mS HO763.out) hb); replace BK760 := yA (yU (mK BK760.out) hb); replace HB := yA (zD (by with_reducible repeat first | exact HB.out | apply yO | apply yN | apply yP | refine yQ ?_ GE760.out) hb); (try clear hb); (try clear hb2); (try clear hk); (try clear hi); have hcz12_0 : w11.cell? ⟨gb760, 0, none⟩ = some (.int .i64 a0_0) := (yV BK760.out 0).trans rfl; have hcz12_1 : w11.cell? ⟨gb760, 1, none⟩ = some (.int .i64 a0_1) := (yV BK760.out 1).trans rfl; have hcz12_2 : w11.cell? ⟨gb760, 2, none⟩ = some (.slice A0_2 l0_2.length c0_2) := (yV BK760.out 2).trans rfl; have hcz12_3 : w11.cell? ⟨gb760, 3, none⟩ = some (.slice A0_3 l0_3.length c0_3) := (yV BK760.out 3).trans rfl; have hfz12_0 := yW BK760.out 0; have hfz12_1 := yW BK760.out 1; have hfz12_2 := yW BK760.out 2; have hfz12_3 := yW BK760.out 3))
    go_meet
    case rel => exact ⟨_, (true), (by first | rfl | (simp; done) | (simp [*]; done)), H', ⟨by first | omega | exact zT _⟩, ⟨mS HO763.out⟩, ⟨mK BK760.out⟩, ⟨by repeat (first | (with_reducible first | exact HB.out | apply yO | apply yN | apply yP | refine yQ ?_ GE760.out) | exact HB.out)⟩⟩
   ·rw [if_neg c9] at H
    have c9b0 : decide (a0_1 < 1) = false := decide_eq_false c9
    clear c9
    (first | rw [c9b0] | (simp only [i64_w, i32_w]; rw [c9b0]) | skip)
    obtain ⟨t765, A13, H⟩ := bE H
    by_cases c14 : t765 = true
    ·subst c14
     replace H := iT H
     by_cases c15 : a0_1 = 3
     ·rw [if_pos c15] at H
      have c15b0 : (a0_1 == 3) = true := beq_iff_eq.mpr c15
      have c15b1 : (a0_1 != 3) = false := bne_eq_false_iff_eq.mpr c15
      clear c15
      have H' := yA H
      clear H
      obtain ⟨hcz16_0, hcz16_1, hcz16_2, hcz16_3⟩ := cz4 BK760.out
      obtain ⟨hfz16_0, hfz16_1, hfz16_2, hfz16_3⟩ := fz4 BK760.out
      go_wp2_with (first | ((with_reducible refine zS (f := 67) rfl ?_); refine goesL_ (some 11) rfl rfl Try.func67 (by kernel_rfl) rfl #[.agg #[.int .i64 a0_0, .int .i64 a0_1, .slice A0_2 l0_2.length c0_2, .slice A0_3 l0_3.length c0_3]] rfl (by (try simp only [zI, zJ, zK]); first | done | rfl | (simp only [zL, zM]; rfl)) ?_; (with_reducible refine (spec_IsRelation.calls k a0_0 a0_1 _ _ l0_2 _ _ l0_3 true _ ?side1 ?side2 ?side3 ?side4 A7.out).mono ?_); (case side1 => exact mC (yM HR0_2.out HB.out)); (case side2 => exact HC0_2.out); (case side3 => exact mC (yM HR0_3.out HB.out)); (case side4 => exact HC0_3.out); rintro e w17 ⟨rfl, hb⟩; refine ⟨_, rfl, ?_⟩; replace HO763 := yA (yL (mS HO763.out) hb); replace BK760 := yA (yU (mK BK760.out) hb); replace HB := yA (zD (by with_reducible repeat first | exact HB.out | apply yO | apply yN | apply yP | refine yQ ?_ GE760.out) hb); (try clear hb); (try clear hb2); (try clear hk); (try clear hi); have hcz18_0 : w17.cell? ⟨gb760, 0, none⟩ = some (.int .i64 a0_0) := (yV BK760.out 0).trans rfl; have hcz18_1 : w17.cell? ⟨gb760, 1, none⟩ = some (.int .i64 a0_1) := (yV BK760.out 1).trans rfl; have hcz18_2 : w17.cell? ⟨gb760, 2, none⟩ = some (.slice A0_2 l0_2.length c0_2) := (yV BK760.out 2).trans rfl; have hcz18_3 : w17.cell? ⟨gb760, 3, none⟩ = some (.slice A0_3 l0_3.length c0_3) := (yV BK760.out 3).trans rfl; have hfz18_0 := yW BK760.out 0; have hfz18_1 := yW BK760.out 1; have hfz18_2 := yW BK760.out 2; have hfz18_3 := yW BK760.out 3) | (go_at_call 51; (with_reducible refine (spec_l1In.calls a1 0 20 true _ A13.out).mono ?_); rintro e w' ⟨rfl, ⟨nd, rfl⟩⟩))
      go_meet
      case rel => exact ⟨_, (decide (a1 > 7)), (by first | rfl | (simp; done) | (simp [*]; done)), H', ⟨by first | omega | exact zT _⟩, ⟨mS HO763.out⟩, ⟨mK BK760.out⟩, ⟨by repeat (first | (with_reducible first | exact HB.out | apply yO | apply yN | apply yP | refine yQ ?_ GE760.out) | exact HB.out)⟩⟩
     ·rw [if_neg c15] at H
      have c15b0 : (a0_1 == 3) = false := beq_eq_false_iff_ne.mpr c15
      have c15b1 : (a0_1 != 3) = true := bne_iff_ne.mpr c15
      have H' := yA H
      clear H
      obtain ⟨hcz19_0, hcz19_1, hcz19_2, hcz19_3⟩ := cz4 BK760.out
      obtain ⟨hfz19_0, hfz19_1, hfz19_2, hfz19_3⟩ := fz4 BK760.out
      go_wp2_with (first | ((with_reducible refine zS (f := 67) rfl ?_); refine goesL_ (some 11) rfl rfl Try.func67 (by kernel_rfl) rfl #[.agg #[.int .i64 a0_0, .int .i64 a0_1, .slice A0_2 l0_2.length c0_2, .slice A0_3 l0_3.length c0_3]] rfl (by (try simp only [zI, zJ, zK]); first | done | rfl | (simp only [zL, zM]; rfl)) ?_; (with_reducible refine (spec_IsRelation.calls k a0_0 a0_1 _ _ l0_2 _ _ l0_3 true _ ?side1 ?side2 ?side3 ?side4 A7.out).mono ?_); (case side1 => exact mC (yM HR0_2.out HB.out)); (case side2 => exact HC0_2.out); (case side3 => exact mC (yM HR0_3.out HB.out)); (case side4 => exact HC0_3.out); rintro e w20 ⟨rfl, hb⟩; refine ⟨_, rfl, ?_⟩; replace HO763 := yA (yL (mS HO763.out) hb); replace BK760 := yA (yU (mK BK760.out) hb); replace HB := yA (zD (by with_reducible repeat first | exact HB.out | apply yO | apply yN | apply yP | refine yQ ?_ GE760.out) hb); (try clear hb); (try clear hb2); (try clear hk); (try clear hi); have hcz21_0 : w20.cell? ⟨gb760, 0, none⟩ = some (.int .i64 a0_0) := (yV BK760.out 0).trans rfl; have hcz21_1 : w20.cell? ⟨gb760, 1, none⟩ = some (.int .i64 a0_1) := (yV BK760.out 1).trans rfl; have hcz21_2 : w20.cell? ⟨gb760, 2, none⟩ = some (.slice A0_2 l0_2.length c0_2) := (yV BK760.out 2).trans rfl; have hcz21_3 : w20.cell? ⟨gb760, 3, none⟩ = some (.slice A0_3 l0_3.length c0_3) := (yV BK760.out 3).trans rfl; have hfz21_0 := yW BK760.out 0; have hfz21_1 := yW BK760.out 1; have hfz21_2 := yW BK760.out 2; have hfz21_3 := yW BK760.out 3) | (go_at_call 51; (with_reducible refine (spec_l1In.calls a1 0 20 true _ A13.out).mono ?_); rintro e w' ⟨rfl, ⟨nd, rfl⟩⟩))
      go_meet
      case rel => exact ⟨_, (false), (by first | rfl | (simp; done) | (simp [*]; done)), H', ⟨by first | omega | exact zT _⟩, ⟨mS HO763.out⟩, ⟨mK BK760.out⟩, ⟨by repeat (first | (with_reducible first | exact HB.out | apply yO | apply yN | apply yP | refine yQ ?_ GE760.out) | exact HB.out)⟩⟩
    ·replace c14 := Bool.eq_false_iff.mpr c14
     subst c14
     replace H := iF H
     have H' := yA H
     clear H
     obtain ⟨hcz22_0, hcz22_1, hcz22_2, hcz22_3⟩ := cz4 BK760.out
     obtain ⟨hfz22_0, hfz22_1, hfz22_2, hfz22_3⟩ := fz4 BK760.out
     go_wp2_with (first | ((with_reducible refine zS (f := 67) rfl ?_); refine goesL_ (some 11) rfl rfl Try.func67 (by kernel_rfl) rfl #[.agg #[.int .i64 a0_0, .int .i64 a0_1, .slice A0_2 l0_2.length c0_2, .slice A0_3 l0_3.length c0_3]] rfl (by (try simp only [zI, zJ, zK]); first | done | rfl | (simp only [zL, zM]; rfl)) ?_; (with_reducible refine (spec_IsRelation.calls k a0_0 a0_1 _ _ l0_2 _ _ l0_3 true _ ?side1 ?side2 ?side3 ?side4 A7.out).mono ?_); (case side1 => exact mC (yM HR0_2.out HB.out)); (case side2 => exact HC0_2.out); (case side3 => exact mC (yM HR0_3.out HB.out)); (case side4 => exact HC0_3.out); rintro e w23 ⟨rfl, hb⟩; refine ⟨_, rfl, ?_⟩; replace HO763 := yA (yL (mS HO763.out) hb); replace BK760 := yA (yU (mK BK760.out) hb); replace HB := yA (zD (by with_reducible repeat first | exact HB.out | apply yO | apply yN | apply yP | refine yQ ?_ GE760.out) hb); (try clear hb); (try clear hb2); (try clear hk); (try clear hi); have hcz24_0 : w23.cell? ⟨gb760, 0, none⟩ = some (.int .i64 a0_0) := (yV BK760.out 0).trans rfl; have hcz24_1 : w23.cell? ⟨gb760, 1, none⟩ = some (.int .i64 a0_1) := (yV BK760.out 1).trans rfl; have hcz24_2 : w23.cell? ⟨gb760, 2, none⟩ = some (.slice A0_2 l0_2.length c0_2) := (yV BK760.out 2).trans rfl; have hcz24_3 : w23.cell? ⟨gb760, 3, none⟩ = some (.slice A0_3 l0_3.length c0_3) := (yV BK760.out 3).trans rfl; have hfz24_0 := yW BK760.out 0; have hfz24_1 := yW BK760.out 1; have hfz24_2 := yW BK760.out 2; have hfz24_3 := yW BK760.out 3) | (go_at_call 51; (with_reducible refine (spec_l1In.calls a1 0 20 false _ A13.out).mono ?_); rintro e w' ⟨rfl, ⟨nd, rfl⟩⟩))
     go_meet
     case rel => exact ⟨_, (true), (by first | rfl | (simp; done) | (simp [*]; done)), H', ⟨by first | omega | exact zT _⟩, ⟨mS HO763.out⟩, ⟨mK BK760.out⟩, ⟨by repeat (first | (with_reducible first | exact HB.out | apply yO | apply yN | apply yP | refine yQ ?_ GE760.out) | exact HB.out)⟩⟩
  ·replace c8 := Bool.eq_false_iff.mpr c8
   subst c8
   replace H := iF H
   have H' := yA H
   clear H
   obtain ⟨hcz25_0, hcz25_1, hcz25_2, hcz25_3⟩ := cz4 BK760.out
   obtain ⟨hfz25_0, hfz25_1, hfz25_2, hfz25_3⟩ := fz4 BK760.out
   go_wp2_with (first | ((with_reducible refine zS (f := 67) rfl ?_); refine goesL_ (some 11) rfl rfl Try.func67 (by kernel_rfl) rfl #[.agg #[.int .i64 a0_0, .int .i64 a0_1, .slice A0_2 l0_2.length c0_2, .slice A0_3 l0_3.length c0_3]] rfl (by (try simp only [zI, zJ, zK]); first | done | rfl | (simp only [zL, zM]; rfl)) ?_; (with_reducible refine (spec_IsRelation.calls k a0_0 a0_1 _ _ l0_2 _ _ l0_3 false _ ?side1 ?side2 ?side3 ?side4 A7.out).mono ?_); (case side1 => exact mC (yM HR0_2.out HB.out)); (case side2 => exact HC0_2.out); (case side3 => exact mC (yM HR0_3.out HB.out)); (case side4 => exact HC0_3.out); rintro e w26 ⟨rfl, hb⟩; refine ⟨_, rfl, ?_⟩; replace HO763 := yA (yL (mS HO763.out) hb); replace BK760 := yA (yU (mK BK760.out) hb); replace HB := yA (zD (by with_reducible repeat first | exact HB.out | apply yO | apply yN | apply yP | refine yQ ?_ GE760.out) hb); (try clear hb); (try clear hb2); (try clear hk); (try clear hi)))
   go_meet
   case rel => exact ⟨_, (true), (by first | rfl | (simp; done) | (simp [*]; done)), H', ⟨by first | omega | exact zT _⟩, ⟨mS HO763.out⟩, ⟨mK BK760.out⟩, ⟨by repeat (first | (with_reducible first | exact HB.out | apply yO | apply yN | apply yP | refine yQ ?_ GE760.out) | exact HB.out)⟩⟩
 case rest =>
  clear HC3
  (try clear c1);(try clear p2);(try clear c3);(try clear c6);(try clear c8);(try clear c9);(try clear c9b0);(try clear c14);(try clear c15);(try clear c15b0);(try clear c15b1);(try clear hcz10_0);(try clear hcz10_1);(try clear hcz10_2);(try clear hcz10_3);(try clear hcz12_0);(try clear hcz12_1);(try clear hcz12_2);(try clear hcz12_3);(try clear hcz16_0);(try clear hcz16_1);(try clear hcz16_2);(try clear hcz16_3);(try clear hcz18_0);(try clear hcz18_1);(try clear hcz18_2);(try clear hcz18_3);(try clear hcz19_0);(try clear hcz19_1);(try clear hcz19_2);(try clear hcz19_3);(try clear hcz21_0);(try clear hcz21_1);(try clear hcz21_2);(try clear hcz21_3);(try clear hcz22_0);(try clear hcz22_1);(try clear hcz22_2);(try clear hcz22_3);(try clear hcz24_0);(try clear hcz24_1);(try clear hcz24_2);(try clear hcz24_3);(try clear hcz25_0);(try clear hcz25_1);(try clear hcz25_2);(try clear hcz25_3);(try clear hfz10_0);(try clear hfz10_1);(try clear hfz10_2);(try clear hfz10_3);(try clear hfz12_0);(try clear hfz12_1);(try clear hfz12_2);(try clear hfz12_3);(try clear hfz16_0);(try clear hfz16_1);(try clear hfz16_2);(try clear hfz16_3);(try clear hfz18_0);(try clear hfz18_1);(try clear hfz18_2);(try clear hfz18_3);(try clear hfz19_0);(try clear hfz19_1);(try clear hfz19_2);(try clear hfz19_3);(try clear hfz21_0);(try clear hfz21_1);(try clear hfz21_2);(try clear hfz21_3);(try clear hfz22_0);(try clear hfz22_1);(try clear hfz22_2);(try clear hfz22_3);(try clear hfz24_0);(try clear hfz24_1);(try clear hfz24_2);(try clear hfz24_3);(try clear hfz25_0);(try clear hfz25_1);(try clear hfz25_2);(try clear hfz25_3)
  obtain ⟨kq, x31_2, rfl, HA, HJ2, HO_6, BK760, HB⟩ := hcut
  cases kq with
  | zero => exact absurd HA.out (by simp [spec_MembersOf.j0])
  | succ kj2 =>
   have H := HA.out
   clear HA
   simp only [spec_MembersOf.j0] at H
   by_cases c27 : x31_2 = true
   ·subst c27
    replace H := iT H
    simp only [Option.some.injEq, Prod.mk.injEq] at H
    obtain ⟨rfl, rfl⟩ := H
    go_wp2
    go_ret2
    exact ⟨_, by first | rfl | (simp [errW_none, errW_some] <;> rfl) | (simp [*, errW_none, errW_some] <;> rfl), by (with_reducible repeat (first | apply yH | apply yI | apply yJ)); exact HO_6.out, by repeat (first | (with_reducible first | exact HB.out | apply yO | apply yN | apply yP | refine yQ ?_ GE760.out) | exact HB.out)⟩
   ·replace c27 := Bool.eq_false_iff.mpr c27
    subst c27
    replace H := iF H
    have H' := yA H
    clear H
    go_wp2
    go_loopg [6, 7] kj2 (fun kq v6 v7 w' => ∃ (x6_2 : List (List Int)) (x7_2 : Int), v7 = .int .i64 x7_2 ∧ Aside0 (spec_MembersOf.l0 kq a1 x6_2 x7_2 a0_0 a0_1 l0_2 l0_3 = some (r1, r2)) ∧ Aside0 (kq ≤ kj2) ∧ Aside0 (Kd.S (Kd.slice 3 (Kd.int .i64)) 38 w' w.heap.size (fun _ => True) v6 x6_2) ∧ Aside0 (w'.heap[gb760]? = some (.cells #[.int .i64 a0_0, .int .i64 a0_1, (.slice A0_2 l0_2.length c0_2), (.slice A0_3 l0_3.length c0_3)] 25 (0, 0))) ∧ Aside0 (Below w.heap.size w w'))
    case atStart => exact ⟨(y761), (0), (by first | rfl | (simp; done) | (simp [*]; done)), H', ⟨zT _⟩, ⟨mS HO_6.out⟩, ⟨mK BK760.out⟩, ⟨by repeat (first | (with_reducible first | exact HB.out | apply yO | apply yN | apply yP | refine yQ ?_ GE760.out) | exact HB.out)⟩⟩
    case round =>
     clear H'
     (try clear c1);(try clear c2);(try clear p2);(try clear c3);(try clear c6);(try clear c8);(try clear c9);(try clear c9b0);(try clear c14);(try clear c15);(try clear c15b0);(try clear c15b1);(try clear c27);(try clear hcz10_0);(try clear hcz10_1);(try clear hcz10_2);(try clear hcz10_3);(try clear hcz12_0);(try clear hcz12_1);(try clear hcz12_2);(try clear hcz12_3);(try clear hcz16_0);(try clear hcz16_1);(try clear hcz16_2);(try clear hcz16_3);(try clear hcz18_0);(try clear hcz18_1);(try clear hcz18_2);(try clear hcz18_3);(try clear hcz19_0);(try clear hcz19_1);(try clear hcz19_2);(try clear hcz19_3);(try clear hcz21_0);(try clear hcz21_1);(try clear hcz21_2);(try clear hcz21_3);(try clear hcz22_0);(try clear hcz22_1);(try clear hcz22_2);(try clear hcz22_3);(try clear hcz24_0);(try clear hcz24_1);(try clear hcz24_2);(try clear hcz24_3);(try clear hcz25_0);(try clear hcz25_1);(try clear hcz25_2);(try clear hcz25_3);(try clear hfz10_0);(try clear hfz10_1);(try clear hfz10_2);(try clear hfz10_3);(try clear hfz12_0);(try clear hfz12_1);(try clear hfz12_2);(try clear hfz12_3);(try clear hfz16_0);(try clear hfz16_1);(try clear hfz16_2);(try clear hfz16_3);(try clear hfz18_0);(try clear hfz18_1);(try clear hfz18_2);(try clear hfz18_3);(try clear hfz19_0);(try clear hfz19_1);(try clear hfz19_2);(try clear hfz19_3);(try clear hfz21_0);(try clear hfz21_1);(try clear hfz21_2);(try clear hfz21_3);(try clear hfz22_0);(try clear hfz22_1);(try clear hfz22_2);(try clear hfz22_3);(try clear hfz24_0);(try clear hfz24_1);(try clear hfz24_2);(try clear hfz24_3);(try clear hfz25_0);(try clear hfz25_1);(try clear hfz25_2);(try clear hfz25_3);(try clear p2)
     obtain ⟨x6_2, x7_2, rfl, HA, HK2, HO_6, BK760, HB⟩ := hrel
     cases gk with
     | zero => exact absurd HA.out (by simp [spec_MembersOf.l0])
     | succ k2 =>
      have H := HA.out
      clear HA
      simp only [spec_MembersOf.l0] at H
      obtain ⟨t766, A28, H⟩ := bE H
      by_cases c29 : x7_2 < t766
      ·rw [if_pos c29] at H
       have c29b0 : decide (x7_2 < t766) = true := zH c29
       clear c29
       obtain ⟨t767, A30, H⟩ := bE H
       obtain ⟨t770, A31, H⟩ := bE H
       by_cases c32 : t770 = true
       ·subst c32
        replace H := iT H
        obtain ⟨c33, H⟩ := iP H
        have LMc33 := yA c33
        clear c33
        (first | ((with_reducible replace H := bS H); obtain ⟨y771, Ny771, H⟩ := H) | (obtain ⟨y771, Ny771⟩ : ∃ y_ : List (List Int), y_ = (x6_2 ++ [t767]) := ⟨_, rfl⟩; rw [← Ny771] at H; replace Ny771 := yA Ny771))
        have H' := yA H
        clear H
        obtain ⟨hcz34_0, hcz34_1, hcz34_2, hcz34_3⟩ := cz4 BK760.out
        obtain ⟨hfz34_0, hfz34_1, hfz34_2, hfz34_3⟩ := fz4 BK760.out
        go_wp2_with (first | ((with_reducible refine zS (f := 79) rfl ?_); refine goesL_ (some 38) rfl rfl Try.func79 (by kernel_rfl) rfl #[.int .i64 (wrap64 (a1 + 1)), .int .i64 a0_1] rfl (by (try simp only [zI, zJ, zK]); first | done | rfl | (simp only [zL, zM]; rfl)) ?_; (with_reducible refine (spec_l11Power.calls k2 (wrap64 (a1 + 1)) a0_1 t766 _ A28.out).mono ?_); rintro e w' ⟨rfl, ⟨nd, rfl⟩⟩; refine ⟨_, rfl, ?_⟩) | ((with_reducible refine zS (f := 80) rfl ?_); refine goesL_ (some 47) rfl rfl Try.func80 (by kernel_rfl) rfl #[.int .i64 (wrap64 (a1 + 1)), .int .i64 a0_1, .int .i64 x7_2] rfl (by (try simp only [zI, zJ, zK]); first | done | rfl | (simp only [zL, zM]; rfl)) ?_; (with_reducible refine (spec_l11Word.calls k2 (wrap64 (a1 + 1)) a0_1 x7_2 t767 _ A30.out).mono ?_); rintro e w35 ⟨v768, rfl, ho0, hb⟩; refine ⟨_, rfl, ?_⟩; replace HO_6 := yA (Kd.S_elder' (mS HO_6.out) (yY ho0) hb); have HO769 := yA (Kd.R_lower ho0 (yX (by with_reducible repeat first | exact HB.out | apply yO | apply yN | apply yP | refine yQ ?_ GE760.out))); replace BK760 := yA (yU (mK BK760.out) hb); replace HB := yA (zD (by with_reducible repeat first | exact HB.out | apply yO | apply yN | apply yP | refine yQ ?_ GE760.out) hb); (try clear hb); (try clear hb2); (try clear hk); (try clear hi); (try clear ho0); have hcz36_0 : w35.cell? ⟨gb760, 0, none⟩ = some (.int .i64 a0_0) := (yV BK760.out 0).trans rfl; have hcz36_1 : w35.cell? ⟨gb760, 1, none⟩ = some (.int .i64 a0_1) := (yV BK760.out 1).trans rfl; have hcz36_2 : w35.cell? ⟨gb760, 2, none⟩ = some (.slice A0_2 l0_2.length c0_2) := (yV BK760.out 2).trans rfl; have hcz36_3 : w35.cell? ⟨gb760, 3, none⟩ = some (.slice A0_3 l0_3.length c0_3) := (yV BK760.out 3).trans rfl; have hfz36_0 := yW BK760.out 0; have hfz36_1 := yW BK760.out 1; have hfz36_2 := yW BK760.out 2; have hfz36_3 := yW BK760.out 3; obtain ⟨Ao37, co37, eo37⟩ := Kd.R_slice HO769.out; subst eo37) | ((with_reducible refine zS (f := 28) rfl ?_); refine goesL_ (some 50) rfl rfl Try.func28 (by kernel_rfl) rfl #[.agg #[.int .i64 a0_0, .int .i64 a0_1, .slice A0_2 l0_2.length c0_2, .slice A0_3 l0_3.length c0_3], .slice Ao37 t767.length co37] rfl (by (try simp only [zI, zJ, zK]); first | done | rfl | (simp only [zL, zM]; rfl)) ?_; (with_reducible refine (spec_Contains.calls k2 a0_0 a0_1 _ _ l0_2 _ _ l0_3 _ _ t767 true _ ?side1 ?side2 ?side3 ?side4 ?side5 ?side6 A31.out).mono ?_); (case side1 => exact mC (yM HR0_2.out HB.out)); (case side2 => exact HC0_2.out); (case side3 => exact mC (yM HR0_3.out HB.out)); (case side4 => exact HC0_3.out); (case side5 => exact mC ((zN HO769.out).2.2)); (case side6 => exact (zN HO769.out).2.1); rintro e w38 ⟨rfl, hb⟩; refine ⟨_, rfl, ?_⟩; replace HO_6 := yA (yL (mS HO_6.out) hb); replace HO769 := yA (yK (mR HO769.out) hb); replace BK760 := yA (yU (mK BK760.out) hb); replace HB := yA (zD (by with_reducible repeat first | exact HB.out | apply yO | apply yN | apply yP | refine yQ ?_ GE760.out) hb); (try clear hb); (try clear hb2); (try clear hk); (try clear hi)) | ((with_reducible refine gate_builtin (b := .append) (xs := #[.tmp 51, .tmp 53]) rfl ?_); at_builtin; refine Kd.S_append (Kd.slice 3 (Kd.int .i64)) (w0 := w) w.heap.size rfl (.tmp 51) (.tmp 53) 22 38 (.slice none 0 0) 24 rfl Try.underlying22 info38 rfl (by decide) (by omega) u6 x6_2 t767 [.slice Ao37 t767.length co37] (fun _ => True) (fun k_ => some k_ = (.slice Ao37 t767.length co37 : Value).ownBlock) rfl rfl ?aP (fun k_ hk_ => ((zP (ok' := fun k_ => ((fun _ => True)) k_ ∧ some k_ ≠ (u6 : Value).ownBlock) (Kd.R_apart' (HO769.out) (Kd.S_typed HO_6.out) (by decide)) (fun k_ hk => ⟨trivial, hk.2⟩))).1 k_ hk_.symm) ?aF ?aO ?aB ?aS ?aL ?_; (case aP => exact Kd.M_row (zP (Kd.R_tight rfl (zP (ok' := fun k_ => ((fun _ => True)) k_ ∧ some k_ ≠ (u6 : Value).ownBlock) (Kd.R_apart' (HO769.out) (Kd.S_typed HO_6.out) (by decide)) (fun k_ hk => ⟨trivial, hk.2⟩))) (fun _ h_ => h_))); (case aB => exact (by with_reducible repeat first | exact HB.out | apply yO | apply yN | apply yP | refine yQ ?_ GE760.out)); (case aF => exact (fun _ _ => trivial)); (case aO => exact (mS (Kd.S_mono HO_6.out (fun k_ hk => ⟨trivial, fun e_ => hk.2 e_⟩)))); (case aS => exact (yX (by with_reducible repeat first | exact HB.out | apply yO | apply yN | apply yP | refine yQ ?_ GE760.out))); (case aL => have := LMc33.out; omega); intro v772 w39 ho hb hg hat; rw [← Ny771.out] at ho; replace BK760 := yA (blk_grown (g := gb760) (o := .cells #[.int .i64 a0_0, .int .i64 a0_1, .slice A0_2 l0_2.length c0_2, .slice A0_3 l0_3.length c0_3] 25 (0, 0)) (mK BK760.out) hg (Kd.S_ne HO_6.out BK760.out (by decide))); replace HB := yA (hb); have HO773 := yA (ho); clear HO_6 HO769; clear ho hb hg hat))
        go_roundg k2
        case measure => have := HJ2.out; have := HK2.out; omega
        case rel => exact ⟨(y771), (wrap64 (x7_2 + 1)), (by first | rfl | (simp; done) | (simp [*]; done)), H', ⟨by have := HJ2.out; have := HK2.out; omega⟩, ⟨mS HO773.out⟩, ⟨mK BK760.out⟩, ⟨by repeat (first | (with_reducible first | exact HB.out | apply yO | apply yN | apply yP | refine yQ ?_ GE760.out) | exact HB.out)⟩⟩
       ·replace c32 := Bool.eq_false_iff.mpr c32
        subst c32
        replace H := iF H
        have H' := yA H
        clear H
        obtain ⟨hcz40_0, hcz40_1, hcz40_2, hcz40_3⟩ := cz4 BK760.out
        obtain ⟨hfz40_0, hfz40_1, hfz40_2, hfz40_3⟩ := fz4 BK760.out
        go_wp2_with (first | ((with_reducible refine zS (f := 79) rfl ?_); refine goesL_ (some 38) rfl rfl Try.func79 (by kernel_rfl) rfl #[.int .i64 (wrap64 (a1 + 1)), .int .i64 a0_1] rfl (by (try simp only [zI, zJ, zK]); first | done | rfl | (simp only [zL, zM]; rfl)) ?_; (with_reducible refine (spec_l11Power.calls k2 (wrap64 (a1 + 1)) a0_1 t766 _ A28.out).mono ?_); rintro e w' ⟨rfl, ⟨nd, rfl⟩⟩; refine ⟨_, rfl, ?_⟩) | ((with_reducible refine zS (f := 80) rfl ?_); refine goesL_ (some 47) rfl rfl Try.func80 (by kernel_rfl) rfl #[.int .i64 (wrap64 (a1 + 1)), .int .i64 a0_1, .int .i64 x7_2] rfl (by (try simp only [zI, zJ, zK]); first | done | rfl | (simp only [zL, zM]; rfl)) ?_; (with_reducible refine (spec_l11Word.calls k2 (wrap64 (a1 + 1)) a0_1 x7_2 t767 _ A30.out).mono ?_); rintro e w41 ⟨v768, rfl, ho0, hb⟩; refine ⟨_, rfl, ?_⟩; replace HO_6 := yA (Kd.S_elder' (mS HO_6.out) (yY ho0) hb); have HO769 := yA (Kd.R_lower ho0 (yX (by with_reducible repeat first | exact HB.out | apply yO | apply yN | apply yP | refine yQ ?_ GE760.out))); replace BK760 := yA (yU (mK BK760.out) hb); replace HB := yA (zD (by with_reducible repeat first | exact HB.out | apply yO | apply yN | apply yP | refine yQ ?_ GE760.out) hb); (try clear hb); (try clear hb2); (try clear hk); (try clear hi); (try clear ho0); have hcz42_0 : w41.cell? ⟨gb760, 0, none⟩ = some (.int .i64 a0_0) := (yV BK760.out 0).trans rfl; have hcz42_1 : w41.cell? ⟨gb760, 1, none⟩ = some (.int .i64 a0_1) := (yV BK760.out 1).trans rfl; have hcz42_2 : w41.cell? ⟨gb760, 2, none⟩ = some (.slice A0_2 l0_2.length c0_2) := (yV BK760.out 2).trans rfl; have hcz42_3 : w41.cell? ⟨gb760, 3, none⟩ = some (.slice A0_3 l0_3.length c0_3) := (yV BK760.out 3).trans rfl; have hfz42_0 := yW BK760.out 0; have hfz42_1 := yW BK760.out 1; have hfz42_2 := yW BK760.out 2; have hfz42_3 := yW BK760.out 3; obtain ⟨Ao43, co43, eo43⟩ := Kd.R_slice HO769.out; subst eo43) | ((with_reducible refine zS (f := 28) rfl ?_); refine goesL_ (some 50) rfl rfl Try.func28 (by kernel_rfl) rfl #[.agg #[.int .i64 a0_0, .int .i64 a0_1, .slice A0_2 l0_2.length c0_2, .slice A0_3 l0_3.length c0_3], .slice Ao43 t767.length co43] rfl (by (try simp only [zI, zJ, zK]); first | done | rfl | (simp only [zL, zM]; rfl)) ?_; (with_reducible refine (spec_Contains.calls k2 a0_0 a0_1 _ _ l0_2 _ _ l0_3 _ _ t767 false _ ?side1 ?side2 ?side3 ?side4 ?side5 ?side6 A31.out).mono ?_); (case side1 => exact mC (yM HR0_2.out HB.out)); (case side2 => exact HC0_2.out); (case side3 => exact mC (yM HR0_3.out HB.out)); (case side4 => exact HC0_3.out); (case side5 => exact mC ((zN HO769.out).2.2)); (case side6 => exact (zN HO769.out).2.1); rintro e w44 ⟨rfl, hb⟩; refine ⟨_, rfl, ?_⟩; replace HO_6 := yA (yL (mS HO_6.out) hb); replace HO769 := yA (yK (mR HO769.out) hb); replace BK760 := yA (yU (mK BK760.out) hb); replace HB := yA (zD (by with_reducible repeat first | exact HB.out | apply yO | apply yN | apply yP | refine yQ ?_ GE760.out) hb); (try clear hb); (try clear hb2); (try clear hk); (try clear hi)))
        go_roundg k2
        case measure => have := HJ2.out; have := HK2.out; omega
        case rel => exact ⟨(x6_2), (wrap64 (x7_2 + 1)), (by first | rfl | (simp; done) | (simp [*]; done)), H', ⟨by have := HJ2.out; have := HK2.out; omega⟩, ⟨by (with_reducible repeat (first | apply yH | apply yI | apply yJ)); exact Kd.S_mono HO_6.out (fun _ hk => trivial)⟩, ⟨mK BK760.out⟩, ⟨by repeat (first | (with_reducible first | exact HB.out | apply yO | apply yN | apply yP | refine yQ ?_ GE760.out) | exact HB.out)⟩⟩
      ·rw [if_neg c29] at H
       have c29b0 : decide (x7_2 < t766) = false := decide_eq_false c29
       clear c29
       simp only [Option.some.injEq, Prod.mk.injEq] at H
       obtain ⟨rfl, rfl⟩ := H
       obtain ⟨hcz45_0, hcz45_1, hcz45_2, hcz45_3⟩ := cz4 BK760.out
       obtain ⟨hfz45_0, hfz45_1, hfz45_2, hfz45_3⟩ := fz4 BK760.out
       go_wp2_with (first | ((with_reducible refine zS (f := 79) rfl ?_); refine goesL_ (some 38) rfl rfl Try.func79 (by kernel_rfl) rfl #[.int .i64 (wrap64 (a1 + 1)), .int .i64 a0_1] rfl (by (try simp only [zI, zJ, zK]); first | done | rfl | (simp only [zL, zM]; rfl)) ?_; (with_reducible refine (spec_l11Power.calls k2 (wrap64 (a1 + 1)) a0_1 t766 _ A28.out).mono ?_); rintro e w' ⟨rfl, ⟨nd, rfl⟩⟩; refine ⟨_, rfl, ?_⟩))
       go_ret2
       exact ⟨_, by first | rfl | (simp [errW_none, errW_some] <;> rfl) | (simp [*, errW_none, errW_some] <;> rfl), by (with_reducible repeat (first | apply yH | apply yI | apply yJ)); exact HO_6.out, by repeat (first | (with_reducible first | exact HB.out | apply yO | apply yN | apply yP | refine yQ ?_ GE760.out) | exact HB.out)⟩

end Go.Proofs.Ytgopcliohchkmaa.Q
