-- written by a program of this session
-- squeezed
-- compact
-- shrunk
import Derived.Test.YtmkeicahnnlalaaQ0
import Derived.Test.YtmkeicahnnlalaaQ4
namespace Go.Proofs.Ytmkeicahnnlalaa.Q
open Go.RowKit Go.Proofs.YtmkeicahnnlalaaW.PrintWords Go.Proofs.YtmkeicahnnlalaaW.PrintLast Go.Proofs.YtmkeicahnnlalaaW.PrintMore
set_option linter.unusedVariables false
set_option linter.unusedSimpArgs false

/-! ### spec_l16Node: function 116 -/
mutual
def spec_l16Node.j0 : Nat → Int → Int → Int → Bool → Int → Int → Int → Int → Option (Bool)
 | 0, _, _, _, _, _, _, _, _ => none
 | k + 1, x1, x5, x7, x8, x841000, x841001, x841002, x841003 => if x8 = true then ((spec_l1In.f x841001 0 x5).bind fun t841 => (if t841 = true then ((spec_l1In.f x841002 0 x5).bind fun t842 => (if t842 = true then (some (x841003 == 0)) else (some false))) else (some false))) else (if x7 = 3 then ((spec_l1In.f x841001 0 x5).bind fun t843 => (if t843 = true then ((spec_l1In.f x841002 0 x5).bind fun t844 => (if t844 = true then ((spec_l1In.f x841003 0 x5).bind fun t845 => (some t845)) else (some false))) else (some false))) else (if x7 = 4 then ((spec_l1In.f x841001 0 x5).bind fun t846 => (if t846 = true then ((spec_l1In.f x841002 0 255).bind fun t847 => (if t847 = true then (some (x841003 == 0)) else (some false))) else (some false))) else (if x7 = 5 then ((spec_l1In.f x841001 0 x5).bind fun t848 => (if t848 = true then ((spec_l1In.f x841002 0 3).bind fun t849 => (if t849 = true then (some (x841003 == 0)) else (some false))) else (some false))) else (if x7 = 6 then (if x841001 ≥ 0 then (if x841001 < x1 then (if x841002 = 0 then (some (x841003 == 0)) else (some false)) else (some false)) else (some false)) else (if x7 = 7 then (spec_l16Node.j1 k x1 x5 x7 (x7 == 7) x841000 x841001 x841002 x841003) else (spec_l16Node.j1 k x1 x5 x7 (x7 == 8) x841000 x841001 x841002 x841003))))))
def spec_l16Node.j1 : Nat → Int → Int → Int → Bool → Int → Int → Int → Int → Option (Bool)
 | 0, _, _, _, _, _, _, _, _ => none
 | k + 1, x1, x5, x7, x97, x841000, x841001, x841002, x841003 => if x97 = true then (if x841001 ≥ 0 then (if x841001 < x1 then (if x841002 ≥ 0 then (if x841002 < x1 then (some (x841003 == 0)) else (some false)) else (some false)) else (some false)) else (some false)) else (if x7 = 9 then ((spec_l1In.f x841001 0 x5).bind fun t850 => (if t850 = true then (if x841002 ≥ 0 then (if x841002 < x1 then (some (x841003 == 0)) else (some false)) else (some false)) else (some false))) else (if x7 = 10 then ((spec_l1In.f x841001 0 x5).bind fun t851 => (if t851 = true then (if x841002 ≥ 0 then (if x841002 < x1 then (some (x841003 == 0)) else (some false)) else (some false)) else (some false))) else (some false)))
end
def spec_l16Node.f (k : Nat) (a0_0 : Int) (a0_1 : Int) (a0_2 : Int) (a0_3 : Int) (a1 : Int) : Option (Bool) := if a0_0 = 1 then (spec_l16Node.j0 k a1 2 a0_0 (a0_0 == 1) a0_0 a0_1 a0_2 a0_3) else (spec_l16Node.j0 k a1 2 a0_0 (a0_0 == 2) a0_0 a0_1 a0_2 a0_3)
theorem spec_l16Node.mono_l : ∀ k, (∀ y0 y1 y2 y3 y4 y5 y6 y7, LeO (spec_l16Node.j0 k y0 y1 y2 y3 y4 y5 y6 y7) (spec_l16Node.j0 (k + 1) y0 y1 y2 y3 y4 y5 y6 y7)) ∧ (∀ y0 y1 y2 y3 y4 y5 y6 y7, LeO (spec_l16Node.j1 k y0 y1 y2 y3 y4 y5 y6 y7) (spec_l16Node.j1 (k + 1) y0 y1 y2 y3 y4 y5 y6 y7))
 | 0 => ⟨fun _ _ _ _ _ _ _ _ r h => by simp [spec_l16Node.j0] at h, fun _ _ _ _ _ _ _ _ r h => by simp [spec_l16Node.j1] at h⟩
 | k + 1 => by
  obtain ⟨ih0, ih1⟩ := spec_l16Node.mono_l k
  refine ⟨?_, ?_⟩ <;> intros <;> first | unfold spec_l16Node.j0 | unfold spec_l16Node.j1
  all_goals repeat' (with_reducible first | exact ih0 _ _ _ _ _ _ _ _ | exact ih1 _ _ _ _ _ _ _ _ | exact LeO.refl _ | exact LeO.none _ | refine LeO.ite ?_ ?_ | refine LeO.bind ?_ fun _ => ?_)
theorem spec_l16Node.mono : ∀ a0 a1 a2 a3 a4 k, LeO (spec_l16Node.f k a0 a1 a2 a3 a4) (spec_l16Node.f (k + 1) a0 a1 a2 a3 a4) := by
 intro a0 a1 a2 a3 a4 k
 obtain ⟨ih0, ih1⟩ := spec_l16Node.mono_l k
 unfold spec_l16Node.f
 repeat' (with_reducible first | exact ih0 _ _ _ _ _ _ _ _ | exact ih1 _ _ _ _ _ _ _ _ | exact LeO.refl _ | exact LeO.none _ | refine LeO.ite ?_ ?_ | refine LeO.bind ?_ fun _ => ?_)
set_option maxHeartbeats 8000000 in
set_option maxRecDepth 100000 in
theorem spec_l16Node.calls (k : Nat) (a0_0 : Int) (a0_1 : Int) (a0_2 : Int) (a0_3 : Int) (a1 : Int) (r : Bool) (w : World) (h : spec_l16Node.f k a0_0 a0_1 a0_2 a0_3 a1 = some r) :
  Calls Try.prog 116 #[.agg #[.int .i64 a0_0, .int .i64 a0_1, .int .i64 a0_2, .int .i64 a0_3], .int .i64 a1] w fun e w' => e = .returned (.bool r) ∧ Below w.heap.size w w' := by
 have hu71 := Try.underlying71
 have HB := yA (zV w.heap.size w)
 have H : (if a0_0 = 1 then (spec_l16Node.j0 k a1 2 a0_0 (a0_0 == 1) a0_0 a0_1 a0_2 a0_3) else (spec_l16Node.j0 k a1 2 a0_0 (a0_0 == 2) a0_0 a0_1 a0_2 a0_3)) = some r := h
 clear h
 have HC3 := yA H
 clear H
 go_enter Try.func116, Try.ntmps116
 go_upto_if 8 with (first | ((with_reducible refine gate_dst (N := 2) rfl ?_); refine box_event ?hg (N := 2) ?hd (cs := #[.int .i64 a0_0, .int .i64 a0_1, .int .i64 a0_2, .int .i64 a0_3]) (t := 71) ?hr ?_; (case hd => rfl); (case hg => rfl); (case hr => first | (go_simp; done) | (go_simp; rfl)); intro gb840 hg w4 hbox hb; have BK840 := yA (hbox); have GW840 := yA ((by rw [hg]; exact (yX (mB HB.out)) : w.heap.size ≤ gb840)); have GE840 := yA ((by rw [hg]; exact (yX (mB HB.out)) : w.heap.size ≤ gb840)); replace HB := yA (zD (mB HB.out) hb); clear hb hbox hg; have hcz5_0 : w4.cell? ⟨gb840, 0, none⟩ = some (.int .i64 a0_0) := (yV BK840.out 0).trans rfl; have hcz5_1 : w4.cell? ⟨gb840, 1, none⟩ = some (.int .i64 a0_1) := (yV BK840.out 1).trans rfl; have hcz5_2 : w4.cell? ⟨gb840, 2, none⟩ = some (.int .i64 a0_2) := (yV BK840.out 2).trans rfl; have hcz5_3 : w4.cell? ⟨gb840, 3, none⟩ = some (.int .i64 a0_3) := (yV BK840.out 3).trans rfl; have hfz5_0 := yW BK840.out 0; have hfz5_1 := yW BK840.out 1; have hfz5_2 := yW BK840.out 2; have hfz5_3 := yW BK840.out 3))
 (try simp only [Act.put, zA, zB, zC])
 go_cut [8] (fun v8 wc => ∃ (kq : Nat) (x8_2 : Bool), v8 = .bool x8_2 ∧ Aside0 (spec_l16Node.j0 kq a1 2 a0_0 x8_2 a0_0 a0_1 a0_2 a0_3 = some r) ∧ Aside0 (kq ≤ k) ∧ Aside0 (wc.heap[gb840]? = some (.cells #[.int .i64 a0_0, .int .i64 a0_1, .int .i64 a0_2, .int .i64 a0_3] 71 (0, 0))) ∧ Aside0 (Below w.heap.size w wc))
 case first =>
  have H := HC3.out
  clear HC3
  by_cases c6 : a0_0 = 1
  ·rw [if_pos c6] at H
   have c6b0 : (a0_0 == 1) = true := beq_iff_eq.mpr c6
   have c6b1 : (a0_0 != 1) = false := bne_eq_false_iff_eq.mpr c6
   clear c6
   (first | rw [c6b0] | (simp only [i64_w, i32_w]; rw [c6b0]) | skip)
   have H' := yA H
   clear H
   go_wp2
   go_meet
   case rel => exact ⟨_, ((a0_0 == 1)), (by first | rfl | (simp; done) | (simp [*]; done)), H', ⟨by first | omega | exact zT _⟩, ⟨mK BK840.out⟩, ⟨by repeat (first | (with_reducible first | exact HB.out | apply yO | apply yN | apply yP | refine yQ ?_ GE840.out) | exact HB.out)⟩⟩
  ·rw [if_neg c6] at H
   have c6b0 : (a0_0 == 1) = false := beq_eq_false_iff_ne.mpr c6
   have c6b1 : (a0_0 != 1) = true := bne_iff_ne.mpr c6
   (first | rw [c6b0] | (simp only [i64_w, i32_w]; rw [c6b0]) | skip)
   have H' := yA H
   clear H
   go_wp2
   go_meet
   case rel => exact ⟨_, ((a0_0 == 2)), (by first | rfl | (simp; done) | (simp [*]; done)), H', ⟨by first | omega | exact zT _⟩, ⟨mK BK840.out⟩, ⟨by repeat (first | (with_reducible first | exact HB.out | apply yO | apply yN | apply yP | refine yQ ?_ GE840.out) | exact HB.out)⟩⟩
 case rest =>
  clear HC3
  (try clear c1);(try clear p2);(try clear c6);(try clear c6b0);(try clear c6b1);(try clear hcz5_0);(try clear hcz5_1);(try clear hcz5_2);(try clear hcz5_3);(try clear hfz5_0);(try clear hfz5_1);(try clear hfz5_2);(try clear hfz5_3)
  obtain ⟨kq, x8_2, rfl, HA, HJ2, BK840, HB⟩ := hcut
  cases kq with
  | zero => exact absurd HA.out (by simp [spec_l16Node.j0])
  | succ kj2 =>
   have H := HA.out
   clear HA
   simp only [spec_l16Node.j0] at H
   by_cases c7 : x8_2 = true
   ·subst c7
    replace H := iT H
    obtain ⟨t841, A8, H⟩ := bE H
    by_cases c9 : t841 = true
    ·subst c9
     replace H := iT H
     obtain ⟨t842, A10, H⟩ := bE H
     by_cases c11 : t842 = true
     ·subst c11
      replace H := iT H
      obtain rfl := zU H
      obtain ⟨hcz12_0, hcz12_1, hcz12_2, hcz12_3⟩ := cz4 BK840.out
      obtain ⟨hfz12_0, hfz12_1, hfz12_2, hfz12_3⟩ := fz4 BK840.out
      go_wp2_with (first | ((with_reducible refine zS (f := 39) rfl ?_); refine goesL_ (some 14) rfl rfl Try.func39 (by kernel_rfl) rfl #[.int .i64 a0_1, .int .i64 0, .int .i64 2] rfl (by (try simp only [zI, zJ, zK]); first | done | rfl | (simp only [zL, zM]; rfl)) ?_; (with_reducible refine (spec_l1In.calls a0_1 0 2 true _ A8.out).mono ?_); rintro e w' ⟨rfl, ⟨nd, rfl⟩⟩; refine ⟨_, rfl, ?_⟩) | (go_at_call 39; (with_reducible refine (spec_l1In.calls a0_2 0 2 true _ A10.out).mono ?_); rintro e w' ⟨rfl, ⟨nd, rfl⟩⟩))
      go_ret
      exact ⟨by first | rfl | (simp [errW_none, errW_some] <;> rfl) | (simp [*, errW_none, errW_some] <;> rfl), by repeat (first | (with_reducible first | exact HB.out | apply yO | apply yN | apply yP | refine yQ ?_ GE840.out) | exact HB.out)⟩
     ·replace c11 := Bool.eq_false_iff.mpr c11
      subst c11
      replace H := iF H
      obtain rfl := zU H
      obtain ⟨hcz13_0, hcz13_1, hcz13_2, hcz13_3⟩ := cz4 BK840.out
      obtain ⟨hfz13_0, hfz13_1, hfz13_2, hfz13_3⟩ := fz4 BK840.out
      go_wp2_with (first | ((with_reducible refine zS (f := 39) rfl ?_); refine goesL_ (some 14) rfl rfl Try.func39 (by kernel_rfl) rfl #[.int .i64 a0_1, .int .i64 0, .int .i64 2] rfl (by (try simp only [zI, zJ, zK]); first | done | rfl | (simp only [zL, zM]; rfl)) ?_; (with_reducible refine (spec_l1In.calls a0_1 0 2 true _ A8.out).mono ?_); rintro e w' ⟨rfl, ⟨nd, rfl⟩⟩; refine ⟨_, rfl, ?_⟩) | (go_at_call 39; (with_reducible refine (spec_l1In.calls a0_2 0 2 false _ A10.out).mono ?_); rintro e w' ⟨rfl, ⟨nd, rfl⟩⟩))
      go_ret
      exact ⟨by first | rfl | (simp [errW_none, errW_some] <;> rfl) | (simp [*, errW_none, errW_some] <;> rfl), by repeat (first | (with_reducible first | exact HB.out | apply yO | apply yN | apply yP | refine yQ ?_ GE840.out) | exact HB.out)⟩
    ·replace c9 := Bool.eq_false_iff.mpr c9
     subst c9
     replace H := iF H
     obtain rfl := zU H
     obtain ⟨hcz14_0, hcz14_1, hcz14_2, hcz14_3⟩ := cz4 BK840.out
     obtain ⟨hfz14_0, hfz14_1, hfz14_2, hfz14_3⟩ := fz4 BK840.out
     go_wp2_with (first | ((with_reducible refine zS (f := 39) rfl ?_); refine goesL_ (some 14) rfl rfl Try.func39 (by kernel_rfl) rfl #[.int .i64 a0_1, .int .i64 0, .int .i64 2] rfl (by (try simp only [zI, zJ, zK]); first | done | rfl | (simp only [zL, zM]; rfl)) ?_; (with_reducible refine (spec_l1In.calls a0_1 0 2 false _ A8.out).mono ?_); rintro e w' ⟨rfl, ⟨nd, rfl⟩⟩; refine ⟨_, rfl, ?_⟩))
     go_ret
     exact ⟨by first | rfl | (simp [errW_none, errW_some] <;> rfl) | (simp [*, errW_none, errW_some] <;> rfl), by repeat (first | (with_reducible first | exact HB.out | apply yO | apply yN | apply yP | refine yQ ?_ GE840.out) | exact HB.out)⟩
   ·replace c7 := Bool.eq_false_iff.mpr c7
    subst c7
    replace H := iF H
    by_cases c15 : a0_0 = 3
    ·rw [if_pos c15] at H
     have c15b0 : (a0_0 == 3) = true := beq_iff_eq.mpr c15
     have c15b1 : (a0_0 != 3) = false := bne_eq_false_iff_eq.mpr c15
     clear c15
     obtain ⟨t843, A16, H⟩ := bE H
     by_cases c17 : t843 = true
     ·subst c17
      replace H := iT H
      obtain ⟨t844, A18, H⟩ := bE H
      by_cases c19 : t844 = true
      ·subst c19
       replace H := iT H
       obtain ⟨t845, A20, H⟩ := bE H
       obtain rfl := zU H
       obtain ⟨hcz21_0, hcz21_1, hcz21_2, hcz21_3⟩ := cz4 BK840.out
       obtain ⟨hfz21_0, hfz21_1, hfz21_2, hfz21_3⟩ := fz4 BK840.out
       go_wp2_with (first | ((with_reducible refine zS (f := 39) rfl ?_); refine goesL_ (some 31) rfl rfl Try.func39 (by kernel_rfl) rfl #[.int .i64 a0_1, .int .i64 0, .int .i64 2] rfl (by (try simp only [zI, zJ, zK]); first | done | rfl | (simp only [zL, zM]; rfl)) ?_; (with_reducible refine (spec_l1In.calls a0_1 0 2 true _ A16.out).mono ?_); rintro e w' ⟨rfl, ⟨nd, rfl⟩⟩; refine ⟨_, rfl, ?_⟩) | (go_at_call 39; (with_reducible refine (spec_l1In.calls a0_2 0 2 true _ A18.out).mono ?_); rintro e w' ⟨rfl, ⟨nd, rfl⟩⟩) | (go_at_call 39; (with_reducible refine (spec_l1In.calls a0_3 0 2 t845 _ A20.out).mono ?_); rintro e w' ⟨rfl, ⟨nd, rfl⟩⟩))
       go_ret
       exact ⟨by first | rfl | (simp [errW_none, errW_some] <;> rfl) | (simp [*, errW_none, errW_some] <;> rfl), by repeat (first | (with_reducible first | exact HB.out | apply yO | apply yN | apply yP | refine yQ ?_ GE840.out) | exact HB.out)⟩
      ·replace c19 := Bool.eq_false_iff.mpr c19
       subst c19
       replace H := iF H
       obtain rfl := zU H
       obtain ⟨hcz22_0, hcz22_1, hcz22_2, hcz22_3⟩ := cz4 BK840.out
       obtain ⟨hfz22_0, hfz22_1, hfz22_2, hfz22_3⟩ := fz4 BK840.out
       go_wp2_with (first | ((with_reducible refine zS (f := 39) rfl ?_); refine goesL_ (some 31) rfl rfl Try.func39 (by kernel_rfl) rfl #[.int .i64 a0_1, .int .i64 0, .int .i64 2] rfl (by (try simp only [zI, zJ, zK]); first | done | rfl | (simp only [zL, zM]; rfl)) ?_; (with_reducible refine (spec_l1In.calls a0_1 0 2 true _ A16.out).mono ?_); rintro e w' ⟨rfl, ⟨nd, rfl⟩⟩; refine ⟨_, rfl, ?_⟩) | (go_at_call 39; (with_reducible refine (spec_l1In.calls a0_2 0 2 false _ A18.out).mono ?_); rintro e w' ⟨rfl, ⟨nd, rfl⟩⟩))
       go_ret
       exact ⟨by first | rfl | (simp [errW_none, errW_some] <;> rfl) | (simp [*, errW_none, errW_some] <;> rfl), by repeat (first | (with_reducible first | exact HB.out | apply yO | apply yN | apply yP | refine yQ ?_ GE840.out) | exact HB.out)⟩
     ·replace c17 := Bool.eq_false_iff.mpr c17
      subst c17
      replace H := iF H
      obtain rfl := zU H
      obtain ⟨hcz23_0, hcz23_1, hcz23_2, hcz23_3⟩ := cz4 BK840.out
      obtain ⟨hfz23_0, hfz23_1, hfz23_2, hfz23_3⟩ := fz4 BK840.out
      go_wp2_with (first | ((with_reducible refine zS (f := 39) rfl ?_); refine goesL_ (some 31) rfl rfl Try.func39 (by kernel_rfl) rfl #[.int .i64 a0_1, .int .i64 0, .int .i64 2] rfl (by (try simp only [zI, zJ, zK]); first | done | rfl | (simp only [zL, zM]; rfl)) ?_; (with_reducible refine (spec_l1In.calls a0_1 0 2 false _ A16.out).mono ?_); rintro e w' ⟨rfl, ⟨nd, rfl⟩⟩; refine ⟨_, rfl, ?_⟩))
      go_ret
      exact ⟨by first | rfl | (simp [errW_none, errW_some] <;> rfl) | (simp [*, errW_none, errW_some] <;> rfl), by repeat (first | (with_reducible first | exact HB.out | apply yO | apply yN | apply yP | refine yQ ?_ GE840.out) | exact HB.out)⟩
    ·rw [if_neg c15] at H
     have c15b0 : (a0_0 == 3) = false := beq_eq_false_iff_ne.mpr c15
     have c15b1 : (a0_0 != 3) = true := bne_iff_ne.mpr c15
     by_cases c24 : a0_0 = 4
     ·rw [if_pos c24] at H
      have c24b0 : (a0_0 == 4) = true := beq_iff_eq.mpr c24
      have c24b1 : (a0_0 != 4) = false := bne_eq_false_iff_eq.mpr c24
      clear c24
      obtain ⟨t846, A25, H⟩ := bE H
      by_cases c26 : t846 = true
      ·subst c26
       replace H := iT H
       obtain ⟨t847, A27, H⟩ := bE H
       by_cases c28 : t847 = true
       ·subst c28
        replace H := iT H
        obtain rfl := zU H
        obtain ⟨hcz29_0, hcz29_1, hcz29_2, hcz29_3⟩ := cz4 BK840.out
        obtain ⟨hfz29_0, hfz29_1, hfz29_2, hfz29_3⟩ := fz4 BK840.out
        go_wp2_with (first | ((with_reducible refine zS (f := 39) rfl ?_); refine goesL_ (some 49) rfl rfl Try.func39 (by kernel_rfl) rfl #[.int .i64 a0_1, .int .i64 0, .int .i64 2] rfl (by (try simp only [zI, zJ, zK]); first | done | rfl | (simp only [zL, zM]; rfl)) ?_; (with_reducible refine (spec_l1In.calls a0_1 0 2 true _ A25.out).mono ?_); rintro e w' ⟨rfl, ⟨nd, rfl⟩⟩; refine ⟨_, rfl, ?_⟩) | (go_at_call 39; (with_reducible refine (spec_l1In.calls a0_2 0 255 true _ A27.out).mono ?_); rintro e w' ⟨rfl, ⟨nd, rfl⟩⟩))
        go_ret
        exact ⟨by first | rfl | (simp [errW_none, errW_some] <;> rfl) | (simp [*, errW_none, errW_some] <;> rfl), by repeat (first | (with_reducible first | exact HB.out | apply yO | apply yN | apply yP | refine yQ ?_ GE840.out) | exact HB.out)⟩
       ·replace c28 := Bool.eq_false_iff.mpr c28
        subst c28
        replace H := iF H
        obtain rfl := zU H
        obtain ⟨hcz30_0, hcz30_1, hcz30_2, hcz30_3⟩ := cz4 BK840.out
        obtain ⟨hfz30_0, hfz30_1, hfz30_2, hfz30_3⟩ := fz4 BK840.out
        go_wp2_with (first | ((with_reducible refine zS (f := 39) rfl ?_); refine goesL_ (some 49) rfl rfl Try.func39 (by kernel_rfl) rfl #[.int .i64 a0_1, .int .i64 0, .int .i64 2] rfl (by (try simp only [zI, zJ, zK]); first | done | rfl | (simp only [zL, zM]; rfl)) ?_; (with_reducible refine (spec_l1In.calls a0_1 0 2 true _ A25.out).mono ?_); rintro e w' ⟨rfl, ⟨nd, rfl⟩⟩; refine ⟨_, rfl, ?_⟩) | (go_at_call 39; (with_reducible refine (spec_l1In.calls a0_2 0 255 false _ A27.out).mono ?_); rintro e w' ⟨rfl, ⟨nd, rfl⟩⟩))
        go_ret
        exact ⟨by first | rfl | (simp [errW_none, errW_some] <;> rfl) | (simp [*, errW_none, errW_some] <;> rfl), by repeat (first | (with_reducible first | exact HB.out | apply yO | apply yN | apply yP | refine yQ ?_ GE840.out) | exact HB.out)⟩
      ·replace c26 := Bool.eq_false_iff.mpr c26
       subst c26
       replace H := iF H
       obtain rfl := zU H
       obtain ⟨hcz31_0, hcz31_1, hcz31_2, hcz31_3⟩ := cz4 BK840.out
       obtain ⟨hfz31_0, hfz31_1, hfz31_2, hfz31_3⟩ := fz4 BK840.out
       go_wp2_with (first | ((with_reducible refine zS (f := 39) rfl ?_); refine goesL_ (some 49) rfl rfl Try.func39 (by kernel_rfl) rfl #[.int .i64 a0_1, .int .i64 0, .int .i64 2] rfl (by (try simp only [zI, zJ, zK]); first | done | rfl | (simp only [zL, zM]; rfl)) ?_; (with_reducible refine (spec_l1In.calls a0_1 0 2 false _ A25.out).mono ?_); rintro e w' ⟨rfl, ⟨nd, rfl⟩⟩; refine ⟨_, rfl, ?_⟩))
       go_ret
       exact ⟨by first | rfl | (simp [errW_none, errW_some] <;> rfl) | (simp [*, errW_none, errW_some] <;> rfl), by repeat (first | (with_reducible first | exact HB.out | apply yO | apply yN | apply yP | refine yQ ?_ GE840.out) | exact HB.out)⟩
     ·rw [if_neg c24] at H
      have c24b0 : (a0_0 == 4) = false := beq_eq_false_iff_ne.mpr c24
      have c24b1 : (a0_0 != 4) = true := bne_iff_ne.mpr c24
      by_cases c32 : a0_0 = 5
      ·rw [if_pos c32] at H
       have c32b0 : (a0_0 == 5) = true := beq_iff_eq.mpr c32
       have c32b1 : (a0_0 != 5) = false := bne_eq_false_iff_eq.mpr c32
       clear c32
       obtain ⟨t848, A33, H⟩ := bE H
       by_cases c34 : t848 = true
       ·subst c34
        replace H := iT H
        obtain ⟨t849, A35, H⟩ := bE H
        by_cases c36 : t849 = true
        ·subst c36
         replace H := iT H
         obtain rfl := zU H
         obtain ⟨hcz37_0, hcz37_1, hcz37_2, hcz37_3⟩ := cz4 BK840.out
         obtain ⟨hfz37_0, hfz37_1, hfz37_2, hfz37_3⟩ := fz4 BK840.out
         go_wp2_with (first | ((with_reducible refine zS (f := 39) rfl ?_); refine goesL_ (some 65) rfl rfl Try.func39 (by kernel_rfl) rfl #[.int .i64 a0_1, .int .i64 0, .int .i64 2] rfl (by (try simp only [zI, zJ, zK]); first | done | rfl | (simp only [zL, zM]; rfl)) ?_; (with_reducible refine (spec_l1In.calls a0_1 0 2 true _ A33.out).mono ?_); rintro e w' ⟨rfl, ⟨nd, rfl⟩⟩; refine ⟨_, rfl, ?_⟩) | (go_at_call 39; (with_reducible refine (spec_l1In.calls a0_2 0 3 true _ A35.out).mono ?_); rintro e w' ⟨rfl, ⟨nd, rfl⟩⟩))
         go_ret
         exact ⟨by first | rfl | (simp [errW_none, errW_some] <;> rfl) | (simp [*, errW_none, errW_some] <;> rfl), by repeat (first | (with_reducible first | exact HB.out | apply yO | apply yN | apply yP | refine yQ ?_ GE840.out) | exact HB.out)⟩
        ·replace c36 := Bool.eq_false_iff.mpr c36
         subst c36
         replace H := iF H
         obtain rfl := zU H
         obtain ⟨hcz38_0, hcz38_1, hcz38_2, hcz38_3⟩ := cz4 BK840.out
         obtain ⟨hfz38_0, hfz38_1, hfz38_2, hfz38_3⟩ := fz4 BK840.out
         go_wp2_with (first | ((with_reducible refine zS (f := 39) rfl ?_); refine goesL_ (some 65) rfl rfl Try.func39 (by kernel_rfl) rfl #[.int .i64 a0_1, .int .i64 0, .int .i64 2] rfl (by (try simp only [zI, zJ, zK]); first | done | rfl | (simp only [zL, zM]; rfl)) ?_; (with_reducible refine (spec_l1In.calls a0_1 0 2 true _ A33.out).mono ?_); rintro e w' ⟨rfl, ⟨nd, rfl⟩⟩; refine ⟨_, rfl, ?_⟩) | (go_at_call 39; (with_reducible refine (spec_l1In.calls a0_2 0 3 false _ A35.out).mono ?_); rintro e w' ⟨rfl, ⟨nd, rfl⟩⟩))
         go_ret
         exact ⟨by first | rfl | (simp [errW_none, errW_some] <;> rfl) | (simp [*, errW_none, errW_some] <;> rfl), by repeat (first | (with_reducible first | exact HB.out | apply yO | apply yN | apply yP | refine yQ ?_ GE840.out) | exact HB.out)⟩
       ·replace c34 := Bool.eq_false_iff.mpr c34
        subst c34
        replace H := iF H
        obtain rfl := zU H
        obtain ⟨hcz39_0, hcz39_1, hcz39_2, hcz39_3⟩ := cz4 BK840.out
        obtain ⟨hfz39_0, hfz39_1, hfz39_2, hfz39_3⟩ := fz4 BK840.out
        go_wp2_with (first | ((with_reducible refine zS (f := 39) rfl ?_); refine goesL_ (some 65) rfl rfl Try.func39 (by kernel_rfl) rfl #[.int .i64 a0_1, .int .i64 0, .int .i64 2] rfl (by (try simp only [zI, zJ, zK]); first | done | rfl | (simp only [zL, zM]; rfl)) ?_; (with_reducible refine (spec_l1In.calls a0_1 0 2 false _ A33.out).mono ?_); rintro e w' ⟨rfl, ⟨nd, rfl⟩⟩; refine ⟨_, rfl, ?_⟩))
        go_ret
        exact ⟨by first | rfl | (simp [errW_none, errW_some] <;> rfl) | (simp [*, errW_none, errW_some] <;> rfl), by repeat (first | (with_reducible first | exact HB.out | apply yO | apply yN | apply yP | refine yQ ?_ GE840.out) | exact HB.out)⟩
      ·rw [if_neg c32] at H
       have c32b0 : (a0_0 == 5) = false := beq_eq_false_iff_ne.mpr c32
       have c32b1 : (a0_0 != 5) = true := bne_iff_ne.mpr c32
       by_cases c40 : a0_0 = 6
       ·rw [if_pos c40] at H
        have c40b0 : (a0_0 == 6) = true := beq_iff_eq.mpr c40
        have c40b1 : (a0_0 != 6) = false := bne_eq_false_iff_eq.mpr c40
        clear c40
        by_cases c41 : a0_1 ≥ 0
        ·rw [if_pos c41] at H
         have c41b0 : decide (0 ≤ a0_1) = true := zH c41
         clear c41
         by_cases c42 : a0_1 < a1
         ·rw [if_pos c42] at H
          have c42b0 : decide (a0_1 < a1) = true := zH c42
          clear c42
          by_cases c43 : a0_2 = 0
          ·rw [if_pos c43] at H
           have c43b0 : (a0_2 == 0) = true := beq_iff_eq.mpr c43
           have c43b1 : (a0_2 != 0) = false := bne_eq_false_iff_eq.mpr c43
           clear c43
           obtain rfl := zU H
           obtain ⟨hcz44_0, hcz44_1, hcz44_2, hcz44_3⟩ := cz4 BK840.out
           obtain ⟨hfz44_0, hfz44_1, hfz44_2, hfz44_3⟩ := fz4 BK840.out
           go_wp2
           go_ret
           exact ⟨by first | rfl | (simp [errW_none, errW_some] <;> rfl) | (simp [*, errW_none, errW_some] <;> rfl), by repeat (first | (with_reducible first | exact HB.out | apply yO | apply yN | apply yP | refine yQ ?_ GE840.out) | exact HB.out)⟩
          ·rw [if_neg c43] at H
           have c43b0 : (a0_2 == 0) = false := beq_eq_false_iff_ne.mpr c43
           have c43b1 : (a0_2 != 0) = true := bne_iff_ne.mpr c43
           obtain rfl := zU H
           obtain ⟨hcz45_0, hcz45_1, hcz45_2, hcz45_3⟩ := cz4 BK840.out
           obtain ⟨hfz45_0, hfz45_1, hfz45_2, hfz45_3⟩ := fz4 BK840.out
           go_wp2
           go_ret
           exact ⟨by first | rfl | (simp [errW_none, errW_some] <;> rfl) | (simp [*, errW_none, errW_some] <;> rfl), by repeat (first | (with_reducible first | exact HB.out | apply yO | apply yN | apply yP | refine yQ ?_ GE840.out) | exact HB.out)⟩
         ·rw [if_neg c42] at H
          have c42b0 : decide (a0_1 < a1) = false := decide_eq_false c42
          clear c42
          obtain rfl := zU H
          obtain ⟨hcz46_0, hcz46_1, hcz46_2, hcz46_3⟩ := cz4 BK840.out
          obtain ⟨hfz46_0, hfz46_1, hfz46_2, hfz46_3⟩ := fz4 BK840.out
          go_wp2
          go_ret
          exact ⟨by first | rfl | (simp [errW_none, errW_some] <;> rfl) | (simp [*, errW_none, errW_some] <;> rfl), by repeat (first | (with_reducible first | exact HB.out | apply yO | apply yN | apply yP | refine yQ ?_ GE840.out) | exact HB.out)⟩
        ·rw [if_neg c41] at H
         have c41b0 : decide (0 ≤ a0_1) = false := decide_eq_false c41
         clear c41
         obtain rfl := zU H
         obtain ⟨hcz47_0, hcz47_1, hcz47_2, hcz47_3⟩ := cz4 BK840.out
         obtain ⟨hfz47_0, hfz47_1, hfz47_2, hfz47_3⟩ := fz4 BK840.out
         go_wp2
         go_ret
         exact ⟨by first | rfl | (simp [errW_none, errW_some] <;> rfl) | (simp [*, errW_none, errW_some] <;> rfl), by repeat (first | (with_reducible first | exact HB.out | apply yO | apply yN | apply yP | refine yQ ?_ GE840.out) | exact HB.out)⟩
       ·rw [if_neg c40] at H
        have c40b0 : (a0_0 == 6) = false := beq_eq_false_iff_ne.mpr c40
        have c40b1 : (a0_0 != 6) = true := bne_iff_ne.mpr c40
        have HC48 := yA H
        clear H
        go_upto_if 97 with (fail)
        go_cut [97] (fun v97 wc => ∃ (kq : Nat) (x97_47 : Bool), v97 = .bool x97_47 ∧ Aside0 (spec_l16Node.j1 kq a1 2 a0_0 x97_47 a0_0 a0_1 a0_2 a0_3 = some r) ∧ Aside0 (kq ≤ kj2) ∧ Aside0 (wc.heap[gb840]? = some (.cells #[.int .i64 a0_0, .int .i64 a0_1, .int .i64 a0_2, .int .i64 a0_3] 71 (0, 0))) ∧ Aside0 (Below w.heap.size w wc))
        case first =>
         have H := HC48.out
         clear HC48
         by_cases c49 : a0_0 = 7
         ·rw [if_pos c49] at H
          have c49b0 : (a0_0 == 7) = true := beq_iff_eq.mpr c49
          have c49b1 : (a0_0 != 7) = false := bne_eq_false_iff_eq.mpr c49
          clear c49
          (first | rw [c49b0] | (simp only [i64_w, i32_w]; rw [c49b0]) | skip)
          have H' := yA H
          clear H
          go_wp2
          go_meet
          case rel => exact ⟨_, ((a0_0 == 7)), (by first | rfl | (simp; done) | (simp [*]; done)), H', ⟨by have := HJ2.out; first | omega | exact zT _⟩, ⟨mK BK840.out⟩, ⟨by repeat (first | (with_reducible first | exact HB.out | apply yO | apply yN | apply yP | refine yQ ?_ GE840.out) | exact HB.out)⟩⟩
         ·rw [if_neg c49] at H
          have c49b0 : (a0_0 == 7) = false := beq_eq_false_iff_ne.mpr c49
          have c49b1 : (a0_0 != 7) = true := bne_iff_ne.mpr c49
          (first | rw [c49b0] | (simp only [i64_w, i32_w]; rw [c49b0]) | skip)
          have H' := yA H
          clear H
          go_wp2
          go_meet
          case rel => exact ⟨_, ((a0_0 == 8)), (by first | rfl | (simp; done) | (simp [*]; done)), H', ⟨by have := HJ2.out; first | omega | exact zT _⟩, ⟨mK BK840.out⟩, ⟨by repeat (first | (with_reducible first | exact HB.out | apply yO | apply yN | apply yP | refine yQ ?_ GE840.out) | exact HB.out)⟩⟩
        case rest =>
         clear HC48
         (try clear c1);(try clear c2);(try clear p2);(try clear c3);(try clear c4);(try clear c6);(try clear c6b0);(try clear c6b1);(try clear c7);(try clear c9);(try clear c11);(try clear c15);(try clear c15b0);(try clear c15b1);(try clear c17);(try clear c19);(try clear c24);(try clear c24b0);(try clear c24b1);(try clear c26);(try clear c28);(try clear c32);(try clear c32b0);(try clear c32b1);(try clear c34);(try clear c36);(try clear c39);(try clear c40);(try clear c40b0);(try clear c40b1);(try clear c41);(try clear c41b0);(try clear c42);(try clear c42b0);(try clear c43);(try clear c43b0);(try clear c43b1);(try clear c49);(try clear c49b0);(try clear c49b1);(try clear hcz12_0);(try clear hcz12_1);(try clear hcz12_2);(try clear hcz12_3);(try clear hcz13_0);(try clear hcz13_1);(try clear hcz13_2);(try clear hcz13_3);(try clear hcz14_0);(try clear hcz14_1);(try clear hcz14_2);(try clear hcz14_3);(try clear hcz21_0);(try clear hcz21_1);(try clear hcz21_2);(try clear hcz21_3);(try clear hcz22_0);(try clear hcz22_1);(try clear hcz22_2);(try clear hcz22_3);(try clear hcz23_0);(try clear hcz23_1);(try clear hcz23_2);(try clear hcz23_3);(try clear hcz29_0);(try clear hcz29_1);(try clear hcz29_2);(try clear hcz29_3);(try clear hcz30_0);(try clear hcz30_1);(try clear hcz30_2);(try clear hcz30_3);(try clear hcz31_0);(try clear hcz31_1);(try clear hcz31_2);(try clear hcz31_3);(try clear hcz37_0);(try clear hcz37_1);(try clear hcz37_2);(try clear hcz37_3);(try clear hcz38_0);(try clear hcz38_1);(try clear hcz38_2);(try clear hcz38_3);(try clear hcz39_0);(try clear hcz39_1);(try clear hcz39_2);(try clear hcz39_3);(try clear hcz44_0);(try clear hcz44_1);(try clear hcz44_2);(try clear hcz44_3);(try clear hcz45_0);(try clear hcz45_1);(try clear hcz45_2);(try clear hcz45_3);(try clear hcz46_0);(try clear hcz46_1);(try clear hcz46_2);(try clear hcz46_3);(try clear hcz47_0);(try clear hcz47_1);(try clear hcz47_2);(try clear hcz47_3);(try clear hcz5_0);(try clear hcz5_1);(try clear hcz5_2);(try clear hcz5_3);(try clear hfz12_0);(try clear hfz12_1);(try clear hfz12_2);(try clear hfz12_3);(try clear hfz13_0);(try clear hfz13_1);(try clear hfz13_2);(try clear hfz13_3);(try clear hfz14_0);(try clear hfz14_1);(try clear hfz14_2);(try clear hfz14_3);(try clear hfz21_0);(try clear hfz21_1);(try clear hfz21_2);(try clear hfz21_3);(try clear hfz22_0);(try clear hfz22_1);(try clear hfz22_2);(try clear hfz22_3);(try clear hfz23_0);(try clear hfz23_1);(try clear hfz23_2);(try clear hfz23_3);(try clear hfz29_0);(try clear hfz29_1);(try clear hfz29_2);(try clear hfz29_3);(try clear hfz30_0);(try clear hfz30_1);(try clear hfz30_2);(try clear hfz30_3);(try clear hfz31_0);(try clear hfz31_1);(try clear hfz31_2);(try clear hfz31_3);(try clear hfz37_0);(try clear hfz37_1);(try clear hfz37_2);(try clear hfz37_3);(try clear hfz38_0);(try clear hfz38_1);(try clear hfz38_2);(try clear hfz38_3);(try clear hfz39_0);(try clear hfz39_1);(try clear hfz39_2);(try clear hfz39_3);(try clear hfz44_0);(try clear hfz44_1);(try clear hfz44_2);(try clear hfz44_3);(try clear hfz45_0);(try clear hfz45_1);(try clear hfz45_2);(try clear hfz45_3);(try clear hfz46_0);(try clear hfz46_1);(try clear hfz46_2);(try clear hfz46_3);(try clear hfz47_0);(try clear hfz47_1);(try clear hfz47_2);(try clear hfz47_3);(try clear hfz5_0);(try clear hfz5_1);(try clear hfz5_2);(try clear hfz5_3);(try clear p2)
         obtain ⟨kq, x97_47, rfl, HA, HJ47, BK840, HB⟩ := hcut
         cases kq with
         | zero => exact absurd HA.out (by simp [spec_l16Node.j1])
         | succ kj47 =>
          have H := HA.out
          clear HA
          simp only [spec_l16Node.j1] at H
          by_cases c50 : x97_47 = true
          ·subst c50
           replace H := iT H
           by_cases c51 : a0_1 ≥ 0
           ·rw [if_pos c51] at H
            have c51b0 : decide (0 ≤ a0_1) = true := zH c51
            clear c51
            by_cases c52 : a0_1 < a1
            ·rw [if_pos c52] at H
             have c52b0 : decide (a0_1 < a1) = true := zH c52
             clear c52
             by_cases c53 : a0_2 ≥ 0
             ·rw [if_pos c53] at H
              have c53b0 : decide (0 ≤ a0_2) = true := zH c53
              clear c53
              by_cases c54 : a0_2 < a1
              ·rw [if_pos c54] at H
               have c54b0 : decide (a0_2 < a1) = true := zH c54
               clear c54
               obtain rfl := zU H
               obtain ⟨hcz55_0, hcz55_1, hcz55_2, hcz55_3⟩ := cz4 BK840.out
               obtain ⟨hfz55_0, hfz55_1, hfz55_2, hfz55_3⟩ := fz4 BK840.out
               go_wp2
               go_ret
               exact ⟨by first | rfl | (simp [errW_none, errW_some] <;> rfl) | (simp [*, errW_none, errW_some] <;> rfl), by repeat (first | (with_reducible first | exact HB.out | apply yO | apply yN | apply yP | refine yQ ?_ GE840.out) | exact HB.out)⟩
              ·rw [if_neg c54] at H
               have c54b0 : decide (a0_2 < a1) = false := decide_eq_false c54
               clear c54
               obtain rfl := zU H
               obtain ⟨hcz56_0, hcz56_1, hcz56_2, hcz56_3⟩ := cz4 BK840.out
               obtain ⟨hfz56_0, hfz56_1, hfz56_2, hfz56_3⟩ := fz4 BK840.out
               go_wp2
               go_ret
               exact ⟨by first | rfl | (simp [errW_none, errW_some] <;> rfl) | (simp [*, errW_none, errW_some] <;> rfl), by repeat (first | (with_reducible first | exact HB.out | apply yO | apply yN | apply yP | refine yQ ?_ GE840.out) | exact HB.out)⟩
             ·rw [if_neg c53] at H
              have c53b0 : decide (0 ≤ a0_2) = false := decide_eq_false c53
              clear c53
              obtain rfl := zU H
              obtain ⟨hcz57_0, hcz57_1, hcz57_2, hcz57_3⟩ := cz4 BK840.out
              obtain ⟨hfz57_0, hfz57_1, hfz57_2, hfz57_3⟩ := fz4 BK840.out
              go_wp2
              go_ret
              exact ⟨by first | rfl | (simp [errW_none, errW_some] <;> rfl) | (simp [*, errW_none, errW_some] <;> rfl), by repeat (first | (with_reducible first | exact HB.out | apply yO | apply yN | apply yP | refine yQ ?_ GE840.out) | exact HB.out)⟩
            ·rw [if_neg c52] at H
             have c52b0 : decide (a0_1 < a1) = false := decide_eq_false c52
             clear c52
             obtain rfl := zU H
             obtain ⟨hcz58_0, hcz58_1, hcz58_2, hcz58_3⟩ := cz4 BK840.out
             obtain ⟨hfz58_0, hfz58_1, hfz58_2, hfz58_3⟩ := fz4 BK840.out
             go_wp2
             go_ret
             exact ⟨by first | rfl | (simp [errW_none, errW_some] <;> rfl) | (simp [*, errW_none, errW_some] <;> rfl), by repeat (first | (with_reducible first | exact HB.out | apply yO | apply yN | apply yP | refine yQ ?_ GE840.out) | exact HB.out)⟩
           ·rw [if_neg c51] at H
            have c51b0 : decide (0 ≤ a0_1) = false := decide_eq_false c51
            clear c51
            obtain rfl := zU H
            obtain ⟨hcz59_0, hcz59_1, hcz59_2, hcz59_3⟩ := cz4 BK840.out
            obtain ⟨hfz59_0, hfz59_1, hfz59_2, hfz59_3⟩ := fz4 BK840.out
            go_wp2
            go_ret
            exact ⟨by first | rfl | (simp [errW_none, errW_some] <;> rfl) | (simp [*, errW_none, errW_some] <;> rfl), by repeat (first | (with_reducible first | exact HB.out | apply yO | apply yN | apply yP | refine yQ ?_ GE840.out) | exact HB.out)⟩
          ·replace c50 := Bool.eq_false_iff.mpr c50
           subst c50
           replace H := iF H
           by_cases c60 : a0_0 = 9
           ·rw [if_pos c60] at H
            have c60b0 : (a0_0 == 9) = true := beq_iff_eq.mpr c60
            have c60b1 : (a0_0 != 9) = false := bne_eq_false_iff_eq.mpr c60
            clear c60
            obtain ⟨t850, A61, H⟩ := bE H
            by_cases c62 : t850 = true
            ·subst c62
             replace H := iT H
             by_cases c63 : a0_2 ≥ 0
             ·rw [if_pos c63] at H
              have c63b0 : decide (0 ≤ a0_2) = true := zH c63
              clear c63
              by_cases c64 : a0_2 < a1
              ·rw [if_pos c64] at H
               have c64b0 : decide (a0_2 < a1) = true := zH c64
               clear c64
               obtain rfl := zU H
               obtain ⟨hcz65_0, hcz65_1, hcz65_2, hcz65_3⟩ := cz4 BK840.out
               obtain ⟨hfz65_0, hfz65_1, hfz65_2, hfz65_3⟩ := fz4 BK840.out
               go_wp2_with (first | ((with_reducible refine zS (f := 39) rfl ?_); refine goesL_ (some 131) rfl rfl Try.func39 (by kernel_rfl) rfl #[.int .i64 a0_1, .int .i64 0, .int .i64 2] rfl (by (try simp only [zI, zJ, zK]); first | done | rfl | (simp only [zL, zM]; rfl)) ?_; (with_reducible refine (spec_l1In.calls a0_1 0 2 true _ A61.out).mono ?_); rintro e w' ⟨rfl, ⟨nd, rfl⟩⟩; refine ⟨_, rfl, ?_⟩))
               go_ret
               exact ⟨by first | rfl | (simp [errW_none, errW_some] <;> rfl) | (simp [*, errW_none, errW_some] <;> rfl), by repeat (first | (with_reducible first | exact HB.out | apply yO | apply yN | apply yP | refine yQ ?_ GE840.out) | exact HB.out)⟩
              ·rw [if_neg c64] at H
               have c64b0 : decide (a0_2 < a1) = false := decide_eq_false c64
               clear c64
               obtain rfl := zU H
               obtain ⟨hcz66_0, hcz66_1, hcz66_2, hcz66_3⟩ := cz4 BK840.out
               obtain ⟨hfz66_0, hfz66_1, hfz66_2, hfz66_3⟩ := fz4 BK840.out
               go_wp2_with (first | ((with_reducible refine zS (f := 39) rfl ?_); refine goesL_ (some 131) rfl rfl Try.func39 (by kernel_rfl) rfl #[.int .i64 a0_1, .int .i64 0, .int .i64 2] rfl (by (try simp only [zI, zJ, zK]); first | done | rfl | (simp only [zL, zM]; rfl)) ?_; (with_reducible refine (spec_l1In.calls a0_1 0 2 true _ A61.out).mono ?_); rintro e w' ⟨rfl, ⟨nd, rfl⟩⟩; refine ⟨_, rfl, ?_⟩))
               go_ret
               exact ⟨by first | rfl | (simp [errW_none, errW_some] <;> rfl) | (simp [*, errW_none, errW_some] <;> rfl), by repeat (first | (with_reducible first | exact HB.out | apply yO | apply yN | apply yP | refine yQ ?_ GE840.out) | exact HB.out)⟩
             ·rw [if_neg c63] at H
              have c63b0 : decide (0 ≤ a0_2) = false := decide_eq_false c63
              clear c63
              obtain rfl := zU H
              obtain ⟨hcz67_0, hcz67_1, hcz67_2, hcz67_3⟩ := cz4 BK840.out
              obtain ⟨hfz67_0, hfz67_1, hfz67_2, hfz67_3⟩ := fz4 BK840.out
              go_wp2_with (first | ((with_reducible refine zS (f := 39) rfl ?_); refine goesL_ (some 131) rfl rfl Try.func39 (by kernel_rfl) rfl #[.int .i64 a0_1, .int .i64 0, .int .i64 2] rfl (by (try simp only [zI, zJ, zK]); first | done | rfl | (simp only [zL, zM]; rfl)) ?_; (with_reducible refine (spec_l1In.calls a0_1 0 2 true _ A61.out).mono ?_); rintro e w' ⟨rfl, ⟨nd, rfl⟩⟩; refine ⟨_, rfl, ?_⟩))
              go_ret
              exact ⟨by first | rfl | (simp [errW_none, errW_some] <;> rfl) | (simp [*, errW_none, errW_some] <;> rfl), by repeat (first | (with_reducible first | exact HB.out | apply yO | apply yN | apply yP | refine yQ ?_ GE840.out) | exact HB.out)⟩
            ·replace c62 := Bool.eq_false_iff.mpr c62
             subst c62
             replace H := iF H
             obtain rfl := zU H
             obtain ⟨hcz68_0, hcz68_1, hcz68_2, hcz68_3⟩ := cz4 BK840.out
             obtain ⟨hfz68_0, hfz68_1, hfz68_2, hfz68_3⟩ := fz4 BK840.out
             go_wp2_with (first | ((with_reducible refine zS (f := 39) rfl ?_); refine goesL_ (some 131) rfl rfl Try.func39 (by kernel_rfl) rfl #[.int .i64 a0_1, .int .i64 0, .int .i64 2] rfl (by (try simp only [zI, zJ, zK]); first | done | rfl | (simp only [zL, zM]; rfl)) ?_; (with_reducible refine (spec_l1In.calls a0_1 0 2 false _ A61.out).mono ?_); rintro e w' ⟨rfl, ⟨nd, rfl⟩⟩; refine ⟨_, rfl, ?_⟩))
             go_ret
             exact ⟨by first | rfl | (simp [errW_none, errW_some] <;> rfl) | (simp [*, errW_none, errW_some] <;> rfl), by repeat (first | (with_reducible first | exact HB.out | apply yO | apply yN | apply yP | refine yQ ?_ GE840.out) | exact HB.out)⟩
           ·rw [if_neg c60] at H
            have c60b0 : (a0_0 == 9) = false := beq_eq_false_iff_ne.mpr c60
            have c60b1 : (a0_0 != 9) = true := bne_iff_ne.mpr c60
            by_cases c69 : a0_0 = 10
            ·rw [if_pos c69] at H
             have c69b0 : (a0_0 == 10) = true := beq_iff_eq.mpr c69
             have c69b1 : (a0_0 != 10) = false := bne_eq_false_iff_eq.mpr c69
             clear c69
             obtain ⟨t851, A70, H⟩ := bE H
             by_cases c71 : t851 = true
             ·subst c71
              replace H := iT H
              by_cases c72 : a0_2 ≥ 0
              ·rw [if_pos c72] at H
               have c72b0 : decide (0 ≤ a0_2) = true := zH c72
               clear c72
               by_cases c73 : a0_2 < a1
               ·rw [if_pos c73] at H
                have c73b0 : decide (a0_2 < a1) = true := zH c73
                clear c73
                obtain rfl := zU H
                obtain ⟨hcz74_0, hcz74_1, hcz74_2, hcz74_3⟩ := cz4 BK840.out
                obtain ⟨hfz74_0, hfz74_1, hfz74_2, hfz74_3⟩ := fz4 BK840.out
                go_wp2_with (first | ((with_reducible refine zS (f := 39) rfl ?_); refine goesL_ (some 131) rfl rfl Try.func39 (by kernel_rfl) rfl #[.int .i64 a0_1, .int .i64 0, .int .i64 2] rfl (by (try simp only [zI, zJ, zK]); first | done | rfl | (simp only [zL, zM]; rfl)) ?_; (with_reducible refine (spec_l1In.calls a0_1 0 2 true _ A70.out).mono ?_); rintro e w' ⟨rfl, ⟨nd, rfl⟩⟩; refine ⟨_, rfl, ?_⟩))
                go_ret
                exact ⟨by first | rfl | (simp [errW_none, errW_some] <;> rfl) | (simp [*, errW_none, errW_some] <;> rfl), by repeat (first | (with_reducible first | exact HB.out | apply yO | apply yN | apply yP | refine yQ ?_ GE840.out) | exact HB.out)⟩
               ·rw [if_neg c73] at H
                have c73b0 : decide (a0_2 < a1) = false := decide_eq_false c73
                clear c73
                obtain rfl := zU H
                obtain ⟨hcz75_0, hcz75_1, hcz75_2, hcz75_3⟩ := cz4 BK840.out
                obtain ⟨hfz75_0, hfz75_1, hfz75_2, hfz75_3⟩ := fz4 BK840.out
                go_wp2_with (first | ((with_reducible refine zS (f := 39) rfl ?_); refine goesL_ (some 131) rfl rfl Try.func39 (by kernel_rfl) rfl #[.int .i64 a0_1, .int .i64 0, .int .i64 2] rfl (by (try simp only [zI, zJ, zK]); first | done | rfl | (simp only [zL, zM]; rfl)) ?_; (with_reducible refine (spec_l1In.calls a0_1 0 2 true _ A70.out).mono ?_); rintro e w' ⟨rfl, ⟨nd, rfl⟩⟩; refine ⟨_, rfl, ?_⟩))
                go_ret
                exact ⟨by first | rfl | (simp [errW_none, errW_some] <;> rfl) | (simp [*, errW_none, errW_some] <;> rfl), by repeat (first | (with_reducible first | exact HB.out | apply yO | apply yN | apply yP | refine yQ ?_ GE840.out) | exact HB.out)⟩
              ·rw [if_neg c72] at H
               have c72b0 : decide (0 ≤ a0_2) = false := decide_eq_false c72
               clear c72
               obtain rfl := zU H
               obtain ⟨hcz76_0, hcz76_1, hcz76_2, hcz76_3⟩ := cz4 BK840.out
               obtain ⟨hfz76_0, hfz76_1, hfz76_2, hfz76_3⟩ := fz4 BK840.out
               go_wp2_with (first | ((with_reducible refine zS (f := 39) rfl ?_); refine goesL_ (some 131) rfl rfl Try.func39 (by kernel_rfl) rfl #[.int .i64 a0_1, .int .i64 0, .int .i64 2] rfl (by (try simp only [zI, zJ, zK]); first | done | rfl | (simp only [zL, zM]; rfl)) ?_; (with_reducible refine (spec_l1In.calls a0_1 0 2 true _ A70.out).mono ?_); rintro e w' ⟨rfl, ⟨nd, rfl⟩⟩; refine ⟨_, rfl, ?_⟩))
               go_ret
               exact ⟨by first | rfl | (simp [errW_none, errW_some] <;> rfl) | (simp [*, errW_none, errW_some] <;> rfl), by repeat (first | (with_reducible first | exact HB.out | apply yO | apply yN | apply yP | refine yQ ?_ GE840.out) | exact HB.out)⟩
             ·replace c71 := Bool.eq_false_iff.mpr c71
              subst c71
              replace H := iF H
              obtain rfl := zU H
              obtain ⟨hcz77_0, hcz77_1, hcz77_2, hcz77_3⟩ := cz4 BK840.out
              obtain ⟨hfz77_0, hfz77_1, hfz77_2, hfz77_3⟩ := fz4 BK840.out
              go_wp2_with (first | ((with_reducible refine zS (f := 39) rfl ?_); refine goesL_ (some 131) rfl rfl Try.func39 (by kernel_rfl) rfl #[.int .i64 a0_1, .int .i64 0, .int .i64 2] rfl (by (try simp only [zI, zJ, zK]); first | done | rfl | (simp only [zL, zM]; rfl)) ?_; (with_reducible refine (spec_l1In.calls a0_1 0 2 false _ A70.out).mono ?_); rintro e w' ⟨rfl, ⟨nd, rfl⟩⟩; refine ⟨_, rfl, ?_⟩))
              go_ret
              exact ⟨by first | rfl | (simp [errW_none, errW_some] <;> rfl) | (simp [*, errW_none, errW_some] <;> rfl), by repeat (first | (with_reducible first | exact HB.out | apply yO | apply yN | apply yP | refine yQ ?_ GE840.out) | exact HB.out)⟩
            ·rw [if_neg c69] at H
             have c69b0 : (a0_0 == 10) = false := beq_eq_false_iff_ne.mpr c69
             have c69b1 : (a0_0 != 10) = true := bne_iff_ne.mpr c69
             obtain rfl := zU H
             go_wp2
             go_ret
             exact ⟨by first | rfl | (simp [errW_none, errW_some] <;> rfl) | (simp [*, errW_none, errW_some] <;> rfl), by repeat (first | (with_reducible first | exact HB.out | apply yO | apply yN | apply yP | refine yQ ?_ GE840.out) | exact HB.out)⟩

end Go.Proofs.Ytmkeicahnnlalaa.Q
