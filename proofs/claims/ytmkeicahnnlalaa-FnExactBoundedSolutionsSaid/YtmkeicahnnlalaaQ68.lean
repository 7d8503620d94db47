-- written by a program of this session
-- squeezed
-- compact
-- shrunk
import Derived.Test.YtmkeicahnnlalaaQ0
namespace Go.Proofs.Ytmkeicahnnlalaa.Q
open Go.RowKit Go.Proofs.YtmkeicahnnlalaaW.PrintWords Go.Proofs.YtmkeicahnnlalaaW.PrintLast Go.Proofs.YtmkeicahnnlalaaW.PrintMore
set_option linter.unusedVariables false
set_option linter.unusedSimpArgs false

/-! ### spec_l16Kids: function 117 -/
def spec_l16Kids.j0 : Nat → Int → Bool → Int → Int → Int → Int → Option (List Int)
 | 0, _, _, _, _, _, _ => none
 | k + 1, x4, x10, x853000, x853001, x853002, x853003 => if x10 = true then (some (([x853001, x853002] : List Int))) else (if x4 = 9 then (some (([x853002] : List Int))) else (if x4 = 10 then (some (([x853002] : List Int))) else (some (([] : List Int)))))
def spec_l16Kids.f (k : Nat) (a0_0 : Int) (a0_1 : Int) (a0_2 : Int) (a0_3 : Int) : Option (List Int) := if a0_0 = 6 then (some (([a0_1] : List Int))) else (if a0_0 = 7 then (spec_l16Kids.j0 k a0_0 (a0_0 == 7) a0_0 a0_1 a0_2 a0_3) else (spec_l16Kids.j0 k a0_0 (a0_0 == 8) a0_0 a0_1 a0_2 a0_3))
theorem spec_l16Kids.mono_l : ∀ k, (∀ y0 y1 y2 y3 y4 y5, LeO (spec_l16Kids.j0 k y0 y1 y2 y3 y4 y5) (spec_l16Kids.j0 (k + 1) y0 y1 y2 y3 y4 y5))
 | 0 => fun _ _ _ _ _ _ r h => by simp [spec_l16Kids.j0] at h
 | k + 1 => by
  have ih0 := spec_l16Kids.mono_l k
  intros
  unfold spec_l16Kids.j0
  repeat' (with_reducible first | exact ih0 _ _ _ _ _ _ | exact LeO.refl _ | exact LeO.none _ | refine LeO.ite ?_ ?_ | refine LeO.bind ?_ fun _ => ?_)
theorem spec_l16Kids.mono : ∀ a0 a1 a2 a3 k, LeO (spec_l16Kids.f k a0 a1 a2 a3) (spec_l16Kids.f (k + 1) a0 a1 a2 a3) := by
 intro a0 a1 a2 a3 k
 have ih0 := spec_l16Kids.mono_l k
 unfold spec_l16Kids.f
 repeat' (with_reducible first | exact ih0 _ _ _ _ _ _ | exact LeO.refl _ | exact LeO.none _ | refine LeO.ite ?_ ?_ | refine LeO.bind ?_ fun _ => ?_)
set_option maxHeartbeats 8000000 in
set_option maxRecDepth 100000 in
theorem spec_l16Kids.calls (k : Nat) (a0_0 : Int) (a0_1 : Int) (a0_2 : Int) (a0_3 : Int) (r : List Int) (w : World) (h : spec_l16Kids.f k a0_0 a0_1 a0_2 a0_3 = some r) :
  Calls Try.prog 117 #[.agg #[.int .i64 a0_0, .int .i64 a0_1, .int .i64 a0_2, .int .i64 a0_3]] w fun e w' => ∃ v0_ : Value, e = .returned (v0_) ∧ Kd.R (Kd.int .i64) 3 w' w.heap.size (fun _ => True) v0_ r ∧ Below w.heap.size w w' := by
 have hu71 := Try.underlying71
 have HB := yA (zV w.heap.size w)
 have H : (if a0_0 = 6 then (some (([a0_1] : List Int))) else (if a0_0 = 7 then (spec_l16Kids.j0 k a0_0 (a0_0 == 7) a0_0 a0_1 a0_2 a0_3) else (spec_l16Kids.j0 k a0_0 (a0_0 == 8) a0_0 a0_1 a0_2 a0_3))) = some r := h
 clear h
 by_cases c2 : a0_0 = 6
 ·rw [if_pos c2] at H
  have c2b0 : (a0_0 == 6) = true := beq_iff_eq.mpr c2
  have c2b1 : (a0_0 != 6) = false := bne_eq_false_iff_eq.mpr c2
  clear c2
  (first | ((with_reducible replace H := bS H); obtain ⟨y853, Ny853, H⟩ := H) | (obtain ⟨y853, Ny853⟩ : ∃ y_ : List Int, y_ = (([a0_1] : List Int)) := ⟨_, rfl⟩; rw [← Ny853] at H; replace Ny853 := yA Ny853))
  obtain rfl := zU H
  go_enter Try.func117, Try.ntmps117
  go_wp2_with (first | ((with_reducible refine gate_dst (N := 1) rfl ?_); refine box_event ?hg (N := 1) ?hd (cs := #[.int .i64 a0_0, .int .i64 a0_1, .int .i64 a0_2, .int .i64 a0_3]) (t := 71) ?hr ?_; (case hd => rfl); (case hg => rfl); (case hr => first | (go_simp; done) | (go_simp; rfl)); intro gb852 hg w3 hbox hb; have BK852 := yA (hbox); have GW852 := yA ((by rw [hg]; exact (yX (mB HB.out)) : w.heap.size ≤ gb852)); have GE852 := yA ((by rw [hg]; exact (yX (mB HB.out)) : w.heap.size ≤ gb852)); replace HB := yA (zD (mB HB.out) hb); clear hb hbox hg; have hcz4_0 : w3.cell? ⟨gb852, 0, none⟩ = some (.int .i64 a0_0) := (yV BK852.out 0).trans rfl; have hcz4_1 : w3.cell? ⟨gb852, 1, none⟩ = some (.int .i64 a0_1) := (yV BK852.out 1).trans rfl; have hcz4_2 : w3.cell? ⟨gb852, 2, none⟩ = some (.int .i64 a0_2) := (yV BK852.out 2).trans rfl; have hcz4_3 : w3.cell? ⟨gb852, 3, none⟩ = some (.int .i64 a0_3) := (yV BK852.out 3).trans rfl; have hfz4_0 := yW BK852.out 0; have hfz4_1 := yW BK852.out 1; have hfz4_2 := yW BK852.out 2; have hfz4_3 := yW BK852.out 3) | ((with_reducible refine gate_dst (N := 9) rfl ?_); refine Kd.R_lit (Kd.int .i64) _ 3 ?hg (N := 9) ?hd (xs := ([a0_1] : List Int)) (inner := [.int .i64 a0_1]) (ok := fun _ => True) (okp := fun _ => True) ?hr ?hp (fun _ hk => hk) trivial (zV _ _) (zT _) (by simp) ?_; (case hd => rfl); (case hg => rfl); (case hr => first | (go_simp; done) | (go_simp; rfl)); (case hp => exact (Reps.one (show Kd.M (Kd.int .i64) _ _ _ a0_1 [.int .i64 a0_1] from rfl) (Reps.none _ _))); intro v854 w5 ho6 hb hg_ hnew_; clear hg_ hnew_; (first | rw [← Ny853.out] at ho6 | (simp only [Int.reduceToNat] at ho6; rw [← Ny853.out] at ho6)); have HO855 := yA (Kd.R_lower ho6 (yX (by with_reducible repeat first | exact HB.out | apply yO | apply yN | apply yP | refine yQ ?_ GE852.out))); replace BK852 := yA (yU (mK BK852.out) hb); replace HB := yA (zD (by with_reducible repeat first | exact HB.out | apply yO | apply yN | apply yP | refine yQ ?_ GE852.out) hb); clear hb ho6))
  go_ret
  exact ⟨_, by first | rfl | (simp [errW_none, errW_some] <;> rfl) | (simp [*, errW_none, errW_some] <;> rfl), by (with_reducible repeat (first | apply yB | apply yC | apply yD)); exact HO855.out, by repeat (first | (with_reducible first | exact HB.out | apply yO | apply yN | apply yP | refine yQ ?_ GE852.out) | exact HB.out)⟩
 ·rw [if_neg c2] at H
  have c2b0 : (a0_0 == 6) = false := beq_eq_false_iff_ne.mpr c2
  have c2b1 : (a0_0 != 6) = true := bne_iff_ne.mpr c2
  have HC7 := yA H
  clear H
  go_enter Try.func117, Try.ntmps117
  go_upto_if 10 with (first | ((with_reducible refine gate_dst (N := 1) rfl ?_); refine box_event ?hg (N := 1) ?hd (cs := #[.int .i64 a0_0, .int .i64 a0_1, .int .i64 a0_2, .int .i64 a0_3]) (t := 71) ?hr ?_; (case hd => rfl); (case hg => rfl); (case hr => first | (go_simp; done) | (go_simp; rfl)); intro gb852 hg w8 hbox hb; have BK852 := yA (hbox); have GW852 := yA ((by rw [hg]; exact (yX (mB HB.out)) : w.heap.size ≤ gb852)); have GE852 := yA ((by rw [hg]; exact (yX (mB HB.out)) : w.heap.size ≤ gb852)); replace HB := yA (zD (mB HB.out) hb); clear hb hbox hg; have hcz9_0 : w8.cell? ⟨gb852, 0, none⟩ = some (.int .i64 a0_0) := (yV BK852.out 0).trans rfl; have hcz9_1 : w8.cell? ⟨gb852, 1, none⟩ = some (.int .i64 a0_1) := (yV BK852.out 1).trans rfl; have hcz9_2 : w8.cell? ⟨gb852, 2, none⟩ = some (.int .i64 a0_2) := (yV BK852.out 2).trans rfl; have hcz9_3 : w8.cell? ⟨gb852, 3, none⟩ = some (.int .i64 a0_3) := (yV BK852.out 3).trans rfl; have hfz9_0 := yW BK852.out 0; have hfz9_1 := yW BK852.out 1; have hfz9_2 := yW BK852.out 2; have hfz9_3 := yW BK852.out 3))
  (try simp only [Act.put, zA, zB, zC])
  go_cut [10] (fun v10 wc => ∃ (kq : Nat) (x10_6 : Bool), v10 = .bool x10_6 ∧ Aside0 (spec_l16Kids.j0 kq a0_0 x10_6 a0_0 a0_1 a0_2 a0_3 = some r) ∧ Aside0 (kq ≤ k) ∧ Aside0 (wc.heap[gb852]? = some (.cells #[.int .i64 a0_0, .int .i64 a0_1, .int .i64 a0_2, .int .i64 a0_3] 71 (0, 0))) ∧ Aside0 (Below w.heap.size w wc))
  case first =>
   have H := HC7.out
   clear HC7
   by_cases c10 : a0_0 = 7
   ·rw [if_pos c10] at H
    have c10b0 : (a0_0 == 7) = true := beq_iff_eq.mpr c10
    have c10b1 : (a0_0 != 7) = false := bne_eq_false_iff_eq.mpr c10
    clear c10
    (first | rw [c10b0] | (simp only [i64_w, i32_w]; rw [c10b0]) | skip)
    have H' := yA H
    clear H
    go_wp2
    go_meet
    case rel => exact ⟨_, ((a0_0 == 7)), (by first | rfl | (simp; done) | (simp [*]; done)), H', ⟨by first | omega | exact zT _⟩, ⟨mK BK852.out⟩, ⟨by repeat (first | (with_reducible first | exact HB.out | apply yO | apply yN | apply yP | refine yQ ?_ GE852.out) | exact HB.out)⟩⟩
   ·rw [if_neg c10] at H
    have c10b0 : (a0_0 == 7) = false := beq_eq_false_iff_ne.mpr c10
    have c10b1 : (a0_0 != 7) = true := bne_iff_ne.mpr c10
    (first | rw [c10b0] | (simp only [i64_w, i32_w]; rw [c10b0]) | skip)
    have H' := yA H
    clear H
    go_wp2
    go_meet
    case rel => exact ⟨_, ((a0_0 == 8)), (by first | rfl | (simp; done) | (simp [*]; done)), H', ⟨by first | omega | exact zT _⟩, ⟨mK BK852.out⟩, ⟨by repeat (first | (with_reducible first | exact HB.out | apply yO | apply yN | apply yP | refine yQ ?_ GE852.out) | exact HB.out)⟩⟩
  case rest =>
   clear HC7
   (try clear c1);(try clear c2);(try clear c2b0);(try clear c2b1);(try clear p2);(try clear c10);(try clear c10b0);(try clear c10b1);(try clear hcz4_0);(try clear hcz4_1);(try clear hcz4_2);(try clear hcz4_3);(try clear hcz9_0);(try clear hcz9_1);(try clear hcz9_2);(try clear hcz9_3);(try clear hfz4_0);(try clear hfz4_1);(try clear hfz4_2);(try clear hfz4_3);(try clear hfz9_0);(try clear hfz9_1);(try clear hfz9_2);(try clear hfz9_3)
   obtain ⟨kq, x10_6, rfl, HA, HJ6, BK852, HB⟩ := hcut
   cases kq with
   | zero => exact absurd HA.out (by simp [spec_l16Kids.j0])
   | succ kj6 =>
    have H := HA.out
    clear HA
    simp only [spec_l16Kids.j0] at H
    by_cases c11 : x10_6 = true
    ·subst c11
     replace H := iT H
     (first | ((with_reducible replace H := bS H); obtain ⟨y856, Ny856, H⟩ := H) | (obtain ⟨y856, Ny856⟩ : ∃ y_ : List Int, y_ = (([a0_1, a0_2] : List Int)) := ⟨_, rfl⟩; rw [← Ny856] at H; replace Ny856 := yA Ny856))
     obtain rfl := zU H
     obtain ⟨hcz12_0, hcz12_1, hcz12_2, hcz12_3⟩ := cz4 BK852.out
     obtain ⟨hfz12_0, hfz12_1, hfz12_2, hfz12_3⟩ := fz4 BK852.out
     go_wp2_with (first | ((with_reducible refine gate_dst (N := 17) rfl ?_); refine Kd.R_lit (Kd.int .i64) _ 3 ?hg (N := 17) ?hd (xs := ([a0_1, a0_2] : List Int)) (inner := [.int .i64 a0_1, .int .i64 a0_2]) (ok := fun _ => True) (okp := fun _ => True) ?hr ?hp (fun _ hk => hk) trivial (zV _ _) (zT _) (by simp) ?_; (case hd => rfl); (case hg => rfl); (case hr => first | (go_simp; done) | (go_simp; rfl)); (case hp => exact (Reps.one (show Kd.M (Kd.int .i64) _ _ _ a0_1 [.int .i64 a0_1] from rfl) (Reps.one (show Kd.M (Kd.int .i64) _ _ _ a0_2 [.int .i64 a0_2] from rfl) (Reps.none _ _)))); intro v857 w13 ho14 hb hg_ hnew_; clear hg_ hnew_; (first | rw [← Ny856.out] at ho14 | (simp only [Int.reduceToNat] at ho14; rw [← Ny856.out] at ho14)); have HO858 := yA (Kd.R_lower ho14 (yX (by with_reducible repeat first | exact HB.out | apply yO | apply yN | apply yP | refine yQ ?_ GE852.out))); replace BK852 := yA (yU (mK BK852.out) hb); replace HB := yA (zD (by with_reducible repeat first | exact HB.out | apply yO | apply yN | apply yP | refine yQ ?_ GE852.out) hb); clear hb ho14))
     go_ret
     exact ⟨_, by first | rfl | (simp [errW_none, errW_some] <;> rfl) | (simp [*, errW_none, errW_some] <;> rfl), by (with_reducible repeat (first | apply yB | apply yC | apply yD)); exact HO858.out, by repeat (first | (with_reducible first | exact HB.out | apply yO | apply yN | apply yP | refine yQ ?_ GE852.out) | exact HB.out)⟩
    ·replace c11 := Bool.eq_false_iff.mpr c11
     subst c11
     replace H := iF H
     by_cases c15 : a0_0 = 9
     ·rw [if_pos c15] at H
      have c15b0 : (a0_0 == 9) = true := beq_iff_eq.mpr c15
      have c15b1 : (a0_0 != 9) = false := bne_eq_false_iff_eq.mpr c15
      clear c15
      (first | ((with_reducible replace H := bS H); obtain ⟨y859, Ny859, H⟩ := H) | (obtain ⟨y859, Ny859⟩ : ∃ y_ : List Int, y_ = (([a0_2] : List Int)) := ⟨_, rfl⟩; rw [← Ny859] at H; replace Ny859 := yA Ny859))
      obtain rfl := zU H
      obtain ⟨hcz16_0, hcz16_1, hcz16_2, hcz16_3⟩ := cz4 BK852.out
      obtain ⟨hfz16_0, hfz16_1, hfz16_2, hfz16_3⟩ := fz4 BK852.out
      go_wp2_with (first | ((with_reducible refine gate_dst (N := 23) rfl ?_); refine Kd.R_lit (Kd.int .i64) _ 3 ?hg (N := 23) ?hd (xs := ([a0_2] : List Int)) (inner := [.int .i64 a0_2]) (ok := fun _ => True) (okp := fun _ => True) ?hr ?hp (fun _ hk => hk) trivial (zV _ _) (zT _) (by simp) ?_; (case hd => rfl); (case hg => rfl); (case hr => first | (go_simp; done) | (go_simp; rfl)); (case hp => exact (Reps.one (show Kd.M (Kd.int .i64) _ _ _ a0_2 [.int .i64 a0_2] from rfl) (Reps.none _ _))); intro v860 w17 ho18 hb hg_ hnew_; clear hg_ hnew_; (first | rw [← Ny859.out] at ho18 | (simp only [Int.reduceToNat] at ho18; rw [← Ny859.out] at ho18)); have HO861 := yA (Kd.R_lower ho18 (yX (by with_reducible repeat first | exact HB.out | apply yO | apply yN | apply yP | refine yQ ?_ GE852.out))); replace BK852 := yA (yU (mK BK852.out) hb); replace HB := yA (zD (by with_reducible repeat first | exact HB.out | apply yO | apply yN | apply yP | refine yQ ?_ GE852.out) hb); clear hb ho18))
      go_ret
      exact ⟨_, by first | rfl | (simp [errW_none, errW_some] <;> rfl) | (simp [*, errW_none, errW_some] <;> rfl), by (with_reducible repeat (first | apply yB | apply yC | apply yD)); exact HO861.out, by repeat (first | (with_reducible first | exact HB.out | apply yO | apply yN | apply yP | refine yQ ?_ GE852.out) | exact HB.out)⟩
     ·rw [if_neg c15] at H
      have c15b0 : (a0_0 == 9) = false := beq_eq_false_iff_ne.mpr c15
      have c15b1 : (a0_0 != 9) = true := bne_iff_ne.mpr c15
      by_cases c19 : a0_0 = 10
      ·rw [if_pos c19] at H
       have c19b0 : (a0_0 == 10) = true := beq_iff_eq.mpr c19
       have c19b1 : (a0_0 != 10) = false := bne_eq_false_iff_eq.mpr c19
       clear c19
       (first | ((with_reducible replace H := bS H); obtain ⟨y862, Ny862, H⟩ := H) | (obtain ⟨y862, Ny862⟩ : ∃ y_ : List Int, y_ = (([a0_2] : List Int)) := ⟨_, rfl⟩; rw [← Ny862] at H; replace Ny862 := yA Ny862))
       obtain rfl := zU H
       obtain ⟨hcz20_0, hcz20_1, hcz20_2, hcz20_3⟩ := cz4 BK852.out
       obtain ⟨hfz20_0, hfz20_1, hfz20_2, hfz20_3⟩ := fz4 BK852.out
       go_wp2_with (first | ((with_reducible refine gate_dst (N := 23) rfl ?_); refine Kd.R_lit (Kd.int .i64) _ 3 ?hg (N := 23) ?hd (xs := ([a0_2] : List Int)) (inner := [.int .i64 a0_2]) (ok := fun _ => True) (okp := fun _ => True) ?hr ?hp (fun _ hk => hk) trivial (zV _ _) (zT _) (by simp) ?_; (case hd => rfl); (case hg => rfl); (case hr => first | (go_simp; done) | (go_simp; rfl)); (case hp => exact (Reps.one (show Kd.M (Kd.int .i64) _ _ _ a0_2 [.int .i64 a0_2] from rfl) (Reps.none _ _))); intro v863 w21 ho22 hb hg_ hnew_; clear hg_ hnew_; (first | rw [← Ny862.out] at ho22 | (simp only [Int.reduceToNat] at ho22; rw [← Ny862.out] at ho22)); have HO864 := yA (Kd.R_lower ho22 (yX (by with_reducible repeat first | exact HB.out | apply yO | apply yN | apply yP | refine yQ ?_ GE852.out))); replace BK852 := yA (yU (mK BK852.out) hb); replace HB := yA (zD (by with_reducible repeat first | exact HB.out | apply yO | apply yN | apply yP | refine yQ ?_ GE852.out) hb); clear hb ho22))
       go_ret
       exact ⟨_, by first | rfl | (simp [errW_none, errW_some] <;> rfl) | (simp [*, errW_none, errW_some] <;> rfl), by (with_reducible repeat (first | apply yB | apply yC | apply yD)); exact HO864.out, by repeat (first | (with_reducible first | exact HB.out | apply yO | apply yN | apply yP | refine yQ ?_ GE852.out) | exact HB.out)⟩
      ·rw [if_neg c19] at H
       have c19b0 : (a0_0 == 10) = false := beq_eq_false_iff_ne.mpr c19
       have c19b1 : (a0_0 != 10) = true := bne_iff_ne.mpr c19
       (first | ((with_reducible replace H := bS H); obtain ⟨y865, Ny865, H⟩ := H) | (obtain ⟨y865, Ny865⟩ : ∃ y_ : List Int, y_ = (([] : List Int)) := ⟨_, rfl⟩; rw [← Ny865] at H; replace Ny865 := yA Ny865))
       obtain rfl := zU H
       go_wp2_with (first | ((with_reducible refine gate_dst (N := 24) rfl ?_); refine Kd.R_lit (Kd.int .i64) _ 3 ?hg (N := 24) ?hd (xs := ([] : List Int)) (inner := []) (ok := fun _ => True) (okp := fun _ => True) ?hr ?hp (fun _ hk => hk) trivial (zV _ _) (zT _) (by simp) ?_; (case hd => rfl); (case hg => rfl); (case hr => first | (go_simp; done) | (go_simp; rfl)); (case hp => exact (Reps.none _ _)); intro v866 w23 ho24 hb hg_ hnew_; clear hg_ hnew_; (first | rw [← Ny865.out] at ho24 | (simp only [Int.reduceToNat] at ho24; rw [← Ny865.out] at ho24)); have HO867 := yA (Kd.R_lower ho24 (yX (by with_reducible repeat first | exact HB.out | apply yO | apply yN | apply yP | refine yQ ?_ GE852.out))); replace BK852 := yA (yU (mK BK852.out) hb); replace HB := yA (zD (by with_reducible repeat first | exact HB.out | apply yO | apply yN | apply yP | refine yQ ?_ GE852.out) hb); clear hb ho24))
       go_ret
       exact ⟨_, by first | rfl | (simp [errW_none, errW_some] <;> rfl) | (simp [*, errW_none, errW_some] <;> rfl), by (with_reducible repeat (first | apply yB | apply yC | apply yD)); exact HO867.out, by repeat (first | (with_reducible first | exact HB.out | apply yO | apply yN | apply yP | refine yQ ?_ GE852.out) | exact HB.out)⟩

end Go.Proofs.Ytmkeicahnnlalaa.Q
