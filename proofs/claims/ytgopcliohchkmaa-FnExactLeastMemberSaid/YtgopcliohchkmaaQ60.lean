-- written by a program of this session (a turned copy of the kit's print) out of the translation
-- squeezed
-- compact
import Derived.Test.YtgopcliohchkmaaQ0
import Derived.Test.YtgopcliohchkmaaQ31
import Derived.Test.YtgopcliohchkmaaQ58
import Derived.Test.YtgopcliohchkmaaQ59
namespace Go.Proofs.Ytgopcliohchkmaa.Q
open Go.RowKit Go.Proofs.YtgopcliohchkmaaW.PrintWords Go.Proofs.YtgopcliohchkmaaW.PrintLast Go.Proofs.YtgopcliohchkmaaW.PrintMore
attribute [local go_sem] max2_int min2_int max_two min_two max_three min_three max_four min_four   -- for this text's walks alone
set_option linter.unusedVariables false
set_option linter.unusedSimpArgs false

/-! ### spec_LeastMember: function 32 -/
mutual
def spec_LeastMember.l0 : Nat → List Int → List (List Int) → Int → Int → Int → List (List Int) → List Bool → Option (List Int × Bool)
 | 0, _, _, _, _, _, _, _ => none
 | k + 1, x4, x5, x6, x610000, x610001, x610002, x610003 => if x6 < (x4.length : Int) then (if 0 ≤ x6 then (if 0 ≤ (rd x4 x6) then (if (rd x4 x6) < (x610003.length : Int) then (if rdOf false x610003 (rd x4 x6) = true then (if x6 < (x5.length : Int) then ((spec_l15Numbers.f k x610000 x610001 x610002 x610003 (rd_L1 x5 x6)).bind fun t629 => (some (t629, true))) else (none)) else (spec_LeastMember.l1 k x4 x5 x6 0 x610000 x610001 x610002 x610003)) else (none)) else (none)) else (none)) else (some ((([] : List Int)), false))
def spec_LeastMember.l1 : Nat → List Int → List (List Int) → Int → Int → Int → Int → List (List Int) → List Bool → Option (List Int × Bool)
 | 0, _, _, _, _, _, _, _, _ => none
 | k + 1, x4, x5, x6, x7, x610000, x610001, x610002, x610003 => if 0 ≤ x6 then (if x6 < (x4.length : Int) then (if 0 ≤ (rd x4 x6) then (if (rd x4 x6) < (x610002.length : Int) then (if x7 < ((rd_L1 x610002 (rd x4 x6)).length : Int) then (if 0 ≤ x7 then ((spec_l4Has.f k x4 (rd (rd_L1 x610002 (rd x4 x6)) x7)).bind fun t637 => (if t637 = true then (spec_LeastMember.l1 k x4 x5 x6 (wrap64 (x7 + 1)) x610000 x610001 x610002 x610003) else (if x6 < (x5.length : Int) then (if ((rd_L1 x5 x6).length : Int) < 16 then (if x4.length < 17592186044416 then ((some (([] : List Int) : List Int)).bind fun y642 => (if y642.length + (rd_L1 x5 x6).length < 17592186044416 then ((some (y642 ++ (rd_L1 x5 x6) : List Int)).bind fun y646 => (if y646.length < 17592186044416 then (if x5.length < 5864062014805 then (spec_LeastMember.l1 k (x4 ++ [rd (rd_L1 x610002 (rd x4 x6)) x7]) (x5 ++ [(y646 ++ [x7])]) x6 (wrap64 (x7 + 1)) x610000 x610001 x610002 x610003) else (none)) else (none))) else (none))) else (none)) else (spec_LeastMember.l1 k x4 x5 x6 (wrap64 (x7 + 1)) x610000 x610001 x610002 x610003)) else (none)))) else (none)) else (spec_LeastMember.l0 k x4 x5 (wrap64 (x6 + 1)) x610000 x610001 x610002 x610003)) else (none)) else (none)) else (none)) else (none)
end
def spec_LeastMember.f (k : Nat) (a0_0 : Int) (a0_1 : Int) (l0_2 : List (List Int)) (l0_3 : List Bool) : Option (List Int × Bool) := (spec_IsRelation.f k a0_0 a0_1 l0_2 l0_3).bind fun t610 => (if t610 = true then (spec_LeastMember.l0 k (([0] : List Int)) (([(([] : List Int))] : List (List Int))) 0 a0_0 a0_1 l0_2 l0_3) else (some ((([] : List Int)), false)))
theorem spec_LeastMember.mono_l : ∀ k, (∀ y0 y1 y2 y3 y4 y5 y6, LeO (spec_LeastMember.l0 k y0 y1 y2 y3 y4 y5 y6) (spec_LeastMember.l0 (k + 1) y0 y1 y2 y3 y4 y5 y6)) ∧ (∀ y0 y1 y2 y3 y4 y5 y6 y7, LeO (spec_LeastMember.l1 k y0 y1 y2 y3 y4 y5 y6 y7) (spec_LeastMember.l1 (k + 1) y0 y1 y2 y3 y4 y5 y6 y7))
 | 0 => ⟨fun _ _ _ _ _ _ _ r h => by simp [spec_LeastMember.l0] at h, fun _ _ _ _ _ _ _ _ r h => by simp [spec_LeastMember.l1] at h⟩
 | k + 1 => by
  obtain ⟨ih0, ih1⟩ := spec_LeastMember.mono_l k
  refine ⟨?_, ?_⟩
  ·intro y0 y1 y2 y3 y4 y5 y6
   unfold spec_LeastMember.l0
   repeat' first
   | (with_reducible exact ih0 _ _ _ _ _ _ _)
   | (with_reducible exact ih1 _ _ _ _ _ _ _ _)
   | (with_reducible exact spec_IsRelation.mono _ _ _ _ _)
   | (with_reducible exact spec_l15Numbers.mono _ _ _ _ _ _)
   | (with_reducible exact spec_l4Has.mono _ _ _)
   | (with_reducible exact LeO.refl _)
   | (with_reducible exact LeO.none _)
   | (with_reducible refine LeO.ite ?_ ?_)
   | (with_reducible refine LeO.bind ?_ (fun _ => ?_))
   | exact ih0 _ _ _ _ _ _ _
   | exact ih1 _ _ _ _ _ _ _ _
   | exact spec_IsRelation.mono _ _ _ _ _
   | exact spec_l15Numbers.mono _ _ _ _ _ _
   | exact spec_l4Has.mono _ _ _
   | exact LeO.none _
   | refine LeO.ite ?_ ?_
   | refine LeO.bind ?_ (fun _ => ?_)
  ·intro y0 y1 y2 y3 y4 y5 y6 y7
   unfold spec_LeastMember.l1
   repeat' first
   | (with_reducible exact ih0 _ _ _ _ _ _ _)
   | (with_reducible exact ih1 _ _ _ _ _ _ _ _)
   | (with_reducible exact spec_IsRelation.mono _ _ _ _ _)
   | (with_reducible exact spec_l15Numbers.mono _ _ _ _ _ _)
   | (with_reducible exact spec_l4Has.mono _ _ _)
   | (with_reducible exact LeO.refl _)
   | (with_reducible exact LeO.none _)
   | (with_reducible refine LeO.ite ?_ ?_)
   | (with_reducible refine LeO.bind ?_ (fun _ => ?_))
   | exact ih0 _ _ _ _ _ _ _
   | exact ih1 _ _ _ _ _ _ _ _
   | exact spec_IsRelation.mono _ _ _ _ _
   | exact spec_l15Numbers.mono _ _ _ _ _ _
   | exact spec_l4Has.mono _ _ _
   | exact LeO.none _
   | refine LeO.ite ?_ ?_
   | refine LeO.bind ?_ (fun _ => ?_)
theorem spec_LeastMember.mono : ∀ a0 a1 a2 a3 k, LeO (spec_LeastMember.f k a0 a1 a2 a3) (spec_LeastMember.f (k + 1) a0 a1 a2 a3) := by
 intro a0 a1 a2 a3 k
 obtain ⟨ih0, ih1⟩ := spec_LeastMember.mono_l k
 unfold spec_LeastMember.f
 repeat' first
   | (with_reducible exact ih0 _ _ _ _ _ _ _)
   | (with_reducible exact ih1 _ _ _ _ _ _ _ _)
   | (with_reducible exact spec_IsRelation.mono _ _ _ _ _)
   | (with_reducible exact spec_l15Numbers.mono _ _ _ _ _ _)
   | (with_reducible exact spec_l4Has.mono _ _ _)
   | (with_reducible exact LeO.refl _)
   | (with_reducible exact LeO.none _)
   | (with_reducible refine LeO.ite ?_ ?_)
   | (with_reducible refine LeO.bind ?_ (fun _ => ?_))
   | exact ih0 _ _ _ _ _ _ _
   | exact ih1 _ _ _ _ _ _ _ _
   | exact spec_IsRelation.mono _ _ _ _ _
   | exact spec_l15Numbers.mono _ _ _ _ _ _
   | exact spec_l4Has.mono _ _ _
   | exact LeO.none _
   | refine LeO.ite ?_ ?_
   | refine LeO.bind ?_ (fun _ => ?_)
def spec_LeastMember.T8 : Bool × List (List Nat × List Nat) := (true, [([], []), ([0], [0]), ([], []), ([], []), ([2, 3], [2, 3]), ([4], [4]), ([1, 5], [1, 5]), ([6], [6])])
def spec_LeastMember.B8 : List Nat := [0, 1, 0, 0, 12, 28, 63, 127]
theorem spec_LeastMember.tab8 : rtab .any (opsOf Try.f32 8) = spec_LeastMember.T8 := by kernel_rfl
theorem spec_LeastMember.bits8 : waitsOk spec_LeastMember.T8.2 spec_LeastMember.B8 = true := by kernel_rfl
def spec_LeastMember.T9 : Bool × List (List Nat × List Nat) := (true, [([], []), ([], []), ([], []), ([1, 2], [1, 2]), ([3], [3]), ([0, 4], [0, 4]), ([5, 5, 0, 1, 2, 3, 4, 5], [5]), ([6, 0, 1, 2, 3, 4, 5, 6], [])])
def spec_LeastMember.B9 : List Nat := [0, 0, 0, 6, 14, 31, 63, 127]
theorem spec_LeastMember.tab9 : rtab .any (opsOf Try.f32 9) = spec_LeastMember.T9 := by kernel_rfl
theorem spec_LeastMember.bits9 : waitsOk spec_LeastMember.T9.2 spec_LeastMember.B9 = true := by kernel_rfl
def spec_LeastMember.T11 : Bool × List (List Nat × List Nat) := (true, [([], []), ([], []), ([1], [1]), ([], []), ([], []), ([3, 4], [3, 4]), ([5], [5]), ([2, 6], [2, 6]), ([7], [7]), ([8], [8]), ([0, 9], [0, 9])])
def spec_LeastMember.B11 : List Nat := [0, 0, 2, 0, 0, 24, 56, 126, 254, 510, 1023]
theorem spec_LeastMember.tab11 : rtab .any (opsOf Try.f32 11) = spec_LeastMember.T11 := by kernel_rfl
theorem spec_LeastMember.bits11 : waitsOk spec_LeastMember.T11.2 spec_LeastMember.B11 = true := by kernel_rfl
def spec_LeastMember.T13 : Bool × List (List Nat × List Nat) := (true, [([], []), ([0], [0]), ([], []), ([], []), ([2, 3], [2, 3]), ([4], [4]), ([1, 5], [1, 5]), ([6], [6]), ([], []), ([7, 8], [7, 8]), ([9], [9]), ([10, 0, 1, 2, 3, 4, 5, 6, 7, 8, 9, 10], [10])])
def spec_LeastMember.B13 : List Nat := [0, 1, 0, 0, 12, 28, 63, 127, 0, 511, 1023, 2047]
theorem spec_LeastMember.tab13 : rtab .any (opsOf Try.f32 13) = spec_LeastMember.T13 := by kernel_rfl
theorem spec_LeastMember.bits13 : waitsOk spec_LeastMember.T13.2 spec_LeastMember.B13 = true := by kernel_rfl
set_option maxHeartbeats 8000000 in
set_option maxRecDepth 100000 in
theorem spec_LeastMember.calls (k : Nat) (a0_0 : Int) (a0_1 : Int) (A0_2 : Option Addr) (c0_2 : Nat) (l0_2 : List (List Int)) (A0_3 : Option Addr) (c0_3 : Nat) (l0_3 : List Bool) (r1 : List Int) (r2 : Bool) (w : World) (hr0_2 : Kd.C (Kd.slice 3 (Kd.int .i64)) w A0_2 l0_2.length l0_2) (hc0_2 : l0_2.length ≤ c0_2) (hr0_3 : Kd.C Kd.bool w A0_3 l0_3.length l0_3) (hc0_3 : l0_3.length ≤ c0_3) (h : spec_LeastMember.f k a0_0 a0_1 l0_2 l0_3 = some (r1, r2)) :
  Calls Try.prog 32 #[.agg #[.int .i64 a0_0, .int .i64 a0_1, .slice A0_2 l0_2.length c0_2, .slice A0_3 l0_3.length c0_3]] w fun e w' => ∃ v0_ : Value, e = .returned (.tuple #[v0_, .bool r2]) ∧ Kd.R (Kd.int .i64) 3 w' w.heap.size (fun _ => True) v0_ r1 ∧ Below w.heap.size w w' := by
 have hu25 := Try.underlying25
 have HR0_2 := yA hr0_2
 have HC0_2 := yA hc0_2
 clear hr0_2 hc0_2
 have HR0_3 := yA hr0_3
 have HC0_3 := yA hc0_3
 clear hr0_3 hc0_3
 have HB := yA (zV w.heap.size w)
 have H : ((spec_IsRelation.f k a0_0 a0_1 l0_2 l0_3).bind fun t610 => (if t610 = true then (spec_LeastMember.l0 k (([0] : List Int)) (([(([] : List Int))] : List (List Int))) 0 a0_0 a0_1 l0_2 l0_3) else (some ((([] : List Int)), false)))) = some (r1, r2) := h
 clear h
 replace H := Option.bind_eq_some_iff.mp H
 obtain ⟨t610, A20, H⟩ := H
 replace H : (if t610 = true then (spec_LeastMember.l0 k (([0] : List Int)) (([(([] : List Int))] : List (List Int))) 0 a0_0 a0_1 l0_2 l0_3) else (some ((([] : List Int)), false))) = some (r1, r2) := H
 have A2 := yA A20
 clear A20
 by_cases c3 : t610 = true
 ·subst c3
  have H1 : (spec_LeastMember.l0 k (([0] : List Int)) (([(([] : List Int))] : List (List Int))) 0 a0_0 a0_1 l0_2 l0_3) = some (r1, r2) := by rw [if_pos rfl] at H; exact H
  clear H
  have H := H1
  clear H1
  obtain ⟨y614, hy614⟩ : ∃ y_ : List Int, y_ = (([0] : List Int)) := ⟨_, rfl⟩
  replace H : (spec_LeastMember.l0 k y614 (([(([] : List Int))] : List (List Int))) 0 a0_0 a0_1 l0_2 l0_3) = some (r1, r2) := by first | (rw [hy614]; with_reducible exact H) | (have H2_ := (Option.bind_some _ _).symm.trans H; rw [hy614]; with_reducible exact H2_) | (have H2_ := (Option.bind_some _ _).symm.trans H; with_reducible exact H2_) | with_reducible exact H | (rw [hy614]; exact H) | exact H
  have Ny614 := yA hy614
  clear hy614
  obtain ⟨y617, hy617⟩ : ∃ y_ : List Int, y_ = (([] : List Int)) := ⟨_, rfl⟩
  replace H : (spec_LeastMember.l0 k y614 (([y617] : List (List Int))) 0 a0_0 a0_1 l0_2 l0_3) = some (r1, r2) := by first | (rw [hy617]; with_reducible exact H) | (have H2_ := (Option.bind_some _ _).symm.trans H; rw [hy617]; with_reducible exact H2_) | (have H2_ := (Option.bind_some _ _).symm.trans H; with_reducible exact H2_) | with_reducible exact H | (rw [hy617]; exact H) | exact H
  have Ny617 := yA hy617
  clear hy617
  obtain ⟨y620, hy620⟩ : ∃ y_ : List (List Int), y_ = (([y617] : List (List Int))) := ⟨_, rfl⟩
  replace H : (spec_LeastMember.l0 k y614 y620 0 a0_0 a0_1 l0_2 l0_3) = some (r1, r2) := by first | (rw [hy620]; with_reducible exact H) | (have H2_ := (Option.bind_some _ _).symm.trans H; rw [hy620]; with_reducible exact H2_) | (have H2_ := (Option.bind_some _ _).symm.trans H; with_reducible exact H2_) | with_reducible exact H | (rw [hy620]; exact H) | exact H
  have Ny620 := yA hy620
  clear hy620
  have H' := yA H
  clear H
  go_enter Try.func32, Try.ntmps32
  go_wp2_with (first | ((with_reducible refine gate_dst (N := 1) rfl ?_); refine box_event ?hg (N := 1) ?hd (cs := #[.int .i64 a0_0, .int .i64 a0_1, .slice A0_2 l0_2.length c0_2, .slice A0_3 l0_3.length c0_3]) (t := 25) ?hr ?_; (case hd => rfl); (case hg => rfl); (case hr => first | (go_simp; done) | (go_simp; rfl)); intro gb609 hg w4 hbox hb; have n0_ := yA (zD (mB HB.out) hb); have n1_ := yA (hbox); have n2_ := yA ((by rw [hg]; exact (yX (mB HB.out)) : w.heap.size ≤ gb609)); have n3_ := yA ((by rw [hg]; exact (yX (mB HB.out)) : w.heap.size ≤ gb609)); clear HB; have HB := n0_; have BK609 := n1_; have GW609 := n2_; have GE609 := n3_; clear n0_ n1_ n2_ n3_; clear hb hbox hg; have hcz5_0 : w4.cell? ⟨gb609, 0, none⟩ = some (.int .i64 a0_0) := (yV BK609.out 0).trans rfl; have hcz5_1 : w4.cell? ⟨gb609, 1, none⟩ = some (.int .i64 a0_1) := (yV BK609.out 1).trans rfl; have hcz5_2 : w4.cell? ⟨gb609, 2, none⟩ = some (.slice A0_2 l0_2.length c0_2) := (yV BK609.out 2).trans rfl; have hcz5_3 : w4.cell? ⟨gb609, 3, none⟩ = some (.slice A0_3 l0_3.length c0_3) := (yV BK609.out 3).trans rfl; have hfz5_0 := yW BK609.out 0; have hfz5_1 := yW BK609.out 1; have hfz5_2 := yW BK609.out 2; have hfz5_3 := yW BK609.out 3) | ((with_reducible refine zS (f := 67) rfl ?_); refine goesL_ (some 10) rfl rfl Try.func67 (by kernel_rfl) rfl #[.agg #[.int .i64 a0_0, .int .i64 a0_1, .slice A0_2 l0_2.length c0_2, .slice A0_3 l0_3.length c0_3]] rfl (by (try simp only [zI, zJ, zK]); first | done | rfl | (simp only [zL, zM]; rfl)) ?_; (with_reducible refine (spec_IsRelation.calls k a0_0 a0_1 _ _ l0_2 _ _ l0_3 true _ ?side1 ?side2 ?side3 ?side4 A2.out).mono ?_); (case side1 => exact mC (yM HR0_2.out HB.out)); (case side2 => exact HC0_2.out); (case side3 => exact mC (yM HR0_3.out HB.out)); (case side4 => exact HC0_3.out); rintro e w6 ⟨rfl, hb⟩; refine ⟨_, rfl, ?_⟩; have n0_ := yA (yU (mK BK609.out) hb); have n1_ := yA (zD (by with_reducible repeat first | exact HB.out | apply yO | apply yN | apply yP | refine yQ ?_ GE609.out) hb); clear BK609; clear HB; have BK609 := n0_; have HB := n1_; clear n0_ n1_; (try clear hb); (try clear hb2); (try clear hk); (try clear hi)) | ((with_reducible refine gate_dst (N := 13) rfl ?_); refine Kd.R_lit (Kd.int .i64) _ 3 ?hg (N := 13) ?hd (xs := ([0] : List Int)) (inner := [.int .i64 0]) (ok := fun _ => True) (okp := fun _ => True) ?hr ?hp (fun _ hk => hk) trivial (zV _ _) (zT _) (by simp) ?_; (case hd => rfl); (case hg => rfl); (case hr => first | (go_simp; done) | (go_simp; rfl)); (case hp => exact (Reps.one (show Kd.M (Kd.int .i64) _ _ _ 0 [.int .i64 0] from rfl) (Reps.none _ _))); intro v615 w7 ho8 hb hg_ hnew_; clear hg_ hnew_; (first | rw [← Ny614.out] at ho8 | (simp only [Int.reduceToNat] at ho8; rw [← Ny614.out] at ho8)); have n0_ := yA (Kd.R_lower ho8 (yX (by with_reducible repeat first | exact HB.out | apply yO | apply yN | apply yP | refine yQ ?_ GE609.out))); have n1_ := yA (yU (mK BK609.out) hb); have n2_ := yA (zD (by with_reducible repeat first | exact HB.out | apply yO | apply yN | apply yP | refine yQ ?_ GE609.out) hb); clear BK609; clear HB; have HO616 := n0_; have BK609 := n1_; have HB := n2_; clear n0_ n1_ n2_; clear hb ho8) | ((with_reducible refine gate_dst (N := 14) rfl ?_); refine Kd.R_lit (Kd.int .i64) _ 3 ?hg (N := 14) ?hd (xs := ([] : List Int)) (inner := []) (ok := fun _ => True) (okp := fun _ => True) ?hr ?hp (fun _ hk => hk) trivial (zV _ _) (zT _) (by simp) ?_; (case hd => rfl); (case hg => rfl); (case hr => first | (go_simp; done) | (go_simp; rfl)); (case hp => exact (Reps.none _ _)); intro v618 w9 ho10 hb hg_ hnew_; clear hg_ hnew_; (first | rw [← Ny617.out] at ho10 | (simp only [Int.reduceToNat] at ho10; rw [← Ny617.out] at ho10)); have n0_ := yA (zO (mR HO616.out) (yY ho10) hb); have n1_ := yA (Kd.R_lower (Kd.R_new' ho10 (yZ (mR HO616.out))) (yX (by with_reducible repeat first | exact HB.out | apply yO | apply yN | apply yP | refine yQ ?_ GE609.out))); have n2_ := yA (yU (mK BK609.out) hb); have n3_ := yA (zD (by with_reducible repeat first | exact HB.out | apply yO | apply yN | apply yP | refine yQ ?_ GE609.out) hb); clear HO616; clear BK609; clear HB; have HO616 := n0_; have HO619 := n1_; have BK609 := n2_; have HB := n3_; clear n0_ n1_ n2_ n3_; clear hb ho10; obtain ⟨Ao11, co11, eo11⟩ := Kd.R_slice HO619.out; subst eo11) | ((with_reducible refine gate_dst (N := 15) rfl ?_); refine Kd.N_lit (Kd.slice 3 (Kd.int .i64)) _ 38 ?hg (N' := 15) ?hd (xs := ([y617] : List (List Int))) (inner := [.slice Ao11 y617.length co11]) (ok := (fun k_ => some k_ ≠ (v615 : Value).ownBlock ∧ k_ ≠ gb609)) (okp := (fun k_ => some k_ ≠ (v615 : Value).ownBlock ∧ k_ ≠ gb609)) ?hr ?hp (fun _ hk => hk) ((show ∀ k_, w9.heap.size ≤ k_ → (fun k_ => some k_ ≠ (v615 : Value).ownBlock ∧ k_ ≠ gb609) k_ from fun k_ hk => ⟨Kd.fresh' (yZ (mR HO616.out)) k_ hk, Kd.freshB (g := gb609) (o := .cells #[.int .i64 a0_0, .int .i64 a0_1, .slice A0_2 l0_2.length c0_2, .slice A0_3 l0_3.length c0_3] 25 (0, 0)) (mK BK609.out) k_ hk⟩) _ (zT _)) (zV _ _) (zT _) (by simp) ?_; (case hd => rfl); (case hg => rfl); (case hr => first | (go_simp; done) | (go_simp; rfl)); (case hp => exact (Reps.one (show Kd.FK (Kd.slice 3 (Kd.int .i64)) _ _ y617 [.slice Ao11 y617.length co11] from (Kd.FK_slice_mk (zN (zP (ok' := (fun k_ => some k_ ≠ (v615 : Value).ownBlock ∧ k_ ≠ gb609)) (zR (HO619.out) BK609.out (by decide)) (fun k_ hk => ⟨hk.1.2, hk.2⟩))).2.1 (Kd.R_F (zP (ok' := (fun k_ => some k_ ≠ (v615 : Value).ownBlock ∧ k_ ≠ gb609)) (zR (HO619.out) BK609.out (by decide)) (fun k_ hk => ⟨hk.1.2, hk.2⟩))))) (Reps.none _ _))); intro v621 w12 ho13 hb hg_ hnew_; clear hg_ hnew_; (first | rw [← Ny620.out] at ho13 | (simp only [Int.reduceToNat] at ho13; rw [← Ny620.out] at ho13)); have n0_ := yA (yK (mR HO616.out) hb); have n1_ := yA (Kd.N_lower ho13 (yX (by with_reducible repeat first | exact HB.out | apply yO | apply yN | apply yP | refine yQ ?_ GE609.out))); have n2_ := yA (yU (mK BK609.out) hb); have n3_ := yA (zD (by with_reducible repeat first | exact HB.out | apply yO | apply yN | apply yP | refine yQ ?_ GE609.out) hb); clear HO616; clear BK609; clear HB; clear HO619; have HO616 := n0_; have HO622 := n1_; have BK609 := n2_; have HB := n3_; clear n0_ n1_ n2_ n3_; clear hb ho13))
  go_loopg [4, 5, 6] k (fun kq v4 v5 v6 w' => ∃ (x4_1 : List Int) (x5_1 : List (List Int)) (x6_1 : Int), v6 = .int .i64 x6_1 ∧ Aside0 (spec_LeastMember.l0 kq x4_1 x5_1 x6_1 a0_0 a0_1 l0_2 l0_3 = some (r1, r2)) ∧ Aside0 (kq ≤ k) ∧ Aside0 (Kd.R (Kd.int .i64) 3 w' w.heap.size (fun _ => True) v4 x4_1) ∧ Aside0 (Kd.N (Kd.slice 3 (Kd.int .i64)) 38 w' w.heap.size (fun k_ => some k_ ≠ (v4 : Value).ownBlock ∧ k_ ≠ gb609) v5 x5_1) ∧ Aside0 (w'.heap[gb609]? = some (.cells #[.int .i64 a0_0, .int .i64 a0_1, (.slice A0_2 l0_2.length c0_2), (.slice A0_3 l0_3.length c0_3)] 25 (0, 0))) ∧ Aside0 (Below w.heap.size w w'))
  case atStart => exact ⟨(y614), (y620), (0), (by first | rfl | (simp; done) | (simp [*]; done)), H', ⟨zT _⟩, ⟨by (with_reducible repeat (first | apply yB | apply yC | apply yD)); exact zP HO616.out (fun _ hk => trivial)⟩, ⟨by (with_reducible repeat (first | apply Kd.N_alloc | apply Kd.N_drewN | apply Kd.N_drew)); exact HO622.out⟩, ⟨by (with_reducible repeat (first | refine yS ?_ _ | refine yT ?_ | refine yR ?_ _)); exact BK609.out⟩, ⟨by repeat (first | (with_reducible first | exact HB.out | apply yO | apply yN | apply yP | refine yQ ?_ GE609.out) | exact HB.out)⟩⟩
  case round =>
   clear H'
   try clear p2
   try clear c3
   try clear c6
   try clear hcz5_0
   try clear hcz5_1
   try clear hcz5_2
   try clear hcz5_3
   try clear hfz5_0
   try clear hfz5_1
   try clear hfz5_2
   try clear hfz5_3
   obtain ⟨x4_1, x5_1, x6_1, rfl, HA, HK1, HO_4, HO_5, BK609, HB⟩ := hrel
   cases gk with
   | zero => exact absurd HA.out (by simp [spec_LeastMember.l0])
   | succ k1 =>
    have H := HA.out
    clear HA
    simp only [spec_LeastMember.l0] at H
    by_cases c14 : x6_1 < (x4_1.length : Int)
    ·rw [if_pos c14] at H
     have c14b0 : decide (x6_1 < (x4_1.length : Int)) = true := zH c14
     clear c14
     by_cases c15 : 0 ≤ x6_1
     ·rw [if_pos c15] at H
      have c15b0 : decide (0 ≤ x6_1) = true := zH c15
      clear c15
      by_cases c16 : 0 ≤ (rd x4_1 x6_1)
      ·rw [if_pos c16] at H
       have c16b0 : decide (0 ≤ (rd x4_1 x6_1)) = true := zH c16
       clear c16
       by_cases c17 : (rd x4_1 x6_1) < (l0_3.length : Int)
       ·rw [if_pos c17] at H
        have c17b0 : decide ((rd x4_1 x6_1) < (l0_3.length : Int)) = true := zH c17
        clear c17
        obtain ⟨bq18, hbq18⟩ : ∃ b_ : Bool, b_ = (rdOf false l0_3 (rd x4_1 x6_1)) := ⟨_, rfl⟩
        replace H : (if bq18 = true then (if x6_1 < (x5_1.length : Int) then ((spec_l15Numbers.f k1 a0_0 a0_1 l0_2 l0_3 (rd_L1 x5_1 x6_1)).bind fun t629 => (some (t629, true))) else (none)) else (spec_LeastMember.l1 k1 x4_1 x5_1 x6_1 0 a0_0 a0_1 l0_2 l0_3)) = some (r1, r2) := by rw [← hbq18] at H; exact H
        have Nbq18 := yA hbq18
        clear hbq18
        by_cases c19 : bq18 = true
        ·subst c19
         have H1 : (if x6_1 < (x5_1.length : Int) then ((spec_l15Numbers.f k1 a0_0 a0_1 l0_2 l0_3 (rd_L1 x5_1 x6_1)).bind fun t629 => (some (t629, true))) else (none)) = some (r1, r2) := by rw [if_pos rfl] at H; exact H
         clear H
         have H := H1
         clear H1
         by_cases c20 : x6_1 < (x5_1.length : Int)
         ·rw [if_pos c20] at H
          have c20b0 : decide (x6_1 < (x5_1.length : Int)) = true := zH c20
          clear c20
          replace H := Option.bind_eq_some_iff.mp H
          obtain ⟨t629, A210, H⟩ := H
          replace H : (some (t629, true)) = some (r1, r2) := H
          have A21 := yA A210
          clear A210
          simp only [Option.some.injEq, Prod.mk.injEq] at H
          obtain ⟨rfl, rfl⟩ := H
          obtain ⟨Ao22, co22, eo22⟩ := Kd.R_slice HO_4.out
          subst eo22
          try go_wp2
          have n0_ := yA (yD HO_4.out)
          have n1_ := yA (Kd.N_drew HO_5.out)
          have n2_ := yA (yT BK609.out)
          have n3_ := yA (yP HB.out)
          clear HO_4
          clear HO_5
          clear BK609
          clear HB
          have HO_4 := n0_
          have HO_5 := n1_
          have BK609 := n2_
          have HB := n3_
          clear n0_ n1_ n2_ n3_
          have p626 : 0 ≤ (x6_1 : Int) := zG (by first | (with_reducible assumption) | assumption)
          have q626 : x6_1 < (x4_1.length : Int) := zG (by first | (with_reducible assumption) | assumption)
          obtain ⟨ad626, e626, hx626_0⟩ := Kd.at_int (zN HO_4.out).2.2 x6_1 p626 q626
          cases e626
          replace p626 := eq_true p626
          replace q626 := eq_true q626
          have p627 : 0 ≤ ((rd x4_1 x6_1) : Int) := zG (by first | (with_reducible assumption) | assumption)
          have q627 : (rd x4_1 x6_1) < (l0_3.length : Int) := zG (by first | (with_reducible assumption) | assumption)
          obtain ⟨ad627, e627, hx627_0⟩ := Kd.at_bool HR0_3.out (rd x4_1 x6_1) p627 q627
          have hw627_0 := hx627_0
          (try rw [← Nbq18.out] at hw627_0)
          (try rw [← Nbq18.out] at hx627_0)
          cases e627
          try replace hx627_0 := (HB.out.cell (zE w _ hx627_0)).trans hx627_0
          replace p627 := eq_true p627
          replace q627 := eq_true q627
          refine start_ (n := 8) (S := fun w' => w'.cell? ⟨gb609, 0, none⟩ = some (.int .i64 a0_0) ∧ w'.cell? ⟨gb609, 1, none⟩ = some (.int .i64 a0_1) ∧ w'.cell? ⟨gb609, 2, none⟩ = some (.slice A0_2 l0_2.length c0_2) ∧ w'.cell? ⟨gb609, 3, none⟩ = some (.slice (some ad627) l0_3.length c0_3) ∧ w'.cell? (ad626.add (x6_1).toNat) = some (.int .i64 (rd x4_1 x6_1)) ∧ w'.cell? (ad627.add ((rd x4_1 x6_1)).toNat) = some (.bool true)) (ds := []) #[false, false, false, false, false, false, false, false] (by kernel_rfl) rfl rfl ⟨(yV BK609.out 0).trans rfl, (yV BK609.out 1).trans rfl, (yV BK609.out 2).trans rfl, (yV BK609.out 3).trans rfl, hx626_0, ((HB.out.cell (zE w _ hw627_0)).trans hw627_0)⟩ (fun hHeld => ?_); refine with_tabW spec_LeastMember.tab8 spec_LeastMember.bits8 (fun HT_ HW_ => ?_)
          generalize wr.drew = w23 at HO_4 HO_5 BK609 HB hx626_0 hx627_0 hHeld ⊢
          refine pure_ (i := 0) (N := some 22) (v := ?_) (a' := ?_) #[true, false, false, false, false, false, false, false] rfl rfl (any_of HT_.out (by kernel_rfl)) (fun _ _ _ h => h) (Or.inl ⟨by rfl, ?_⟩) ?_ ?_
          rotate_left
          ·intro w'
           go_simp
           with_reducible rfl
          rotate_left
          ·simp only [Act.put, zA, zB, zC, i64_w, i32_w]
           rfl
          refine pure_ (i := 2) (N := some 24) (v := ?_) (a' := ?_) #[true, false, true, false, false, false, false, false] rfl rfl (any_of HT_.out (by kernel_rfl)) (fun _ _ _ h => h) (Or.inl ⟨by rfl, ?_⟩) ?_ ?_
          rotate_left
          ·intro w'
           go_simp
           with_reducible rfl
          rotate_left
          ·simp only [Act.put, zA, zB, zC, i64_w, i32_w]
           rfl
          refine pure_ (i := 3) (N := some 25) (v := ?_) (a' := ?_) #[true, false, true, true, false, false, false, false] rfl rfl (any_of HT_.out (by kernel_rfl)) (fun _ _ _ h => h) (Or.inl ⟨by rfl, ?_⟩) ?_ ?_
          rotate_left
          ·intro w'
           go_simp
           with_reducible rfl
          rotate_left
          ·simp only [Act.put, zA, zB, zC, i64_w, i32_w]
           rfl
          refine pure_ (i := 4) (N := some 26) (v := ?_) (a' := ?_) #[true, false, true, true, true, false, false, false] rfl rfl (any_of HT_.out (by kernel_rfl)) (fun _ _ _ h => h) (Or.inl ⟨by rfl, ?_⟩) ?_ ?_
          rotate_left
          ·intro w'
           go_simp
           with_reducible rfl
          rotate_left
          ·simp only [Act.put, zA, zB, zC, i64_w, i32_w]
           rfl
          refine take_ (i := 1) (N := some 23) (v := ?_) (a' := ?_) #[true, true, true, true, true, false, false, false] rfl rfl (take_ofW HT_.out HW_.out (by kernel_rfl)) (fun _ _ _ h => h) (Or.inl ⟨by rfl, ?_⟩) hHeld ?_ ?_
          rotate_left
          ·rintro w' ⟨s0, s1, s2, s3, s4, s5⟩
           go_simp
           with_reducible rfl
          rotate_left
          ·simp only [Act.put, zA, zB, zC, i64_w, i32_w]
           rfl
          refine take_ (i := 5) (N := some 27) (v := ?_) (a' := ?_) #[true, true, true, true, true, true, false, false] rfl rfl (take_ofW HT_.out HW_.out (by kernel_rfl)) (fun _ _ _ h => h) (Or.inl ⟨by rfl, ?_⟩) hHeld ?_ ?_
          rotate_left
          ·rintro w' ⟨s0, s1, s2, s3, s4, s5⟩
           go_simp
           with_reducible rfl
          rotate_left
          ·simp only [Act.put, zA, zB, zC, i64_w, i32_w]
           rfl
          refine pure_ (i := 6) (N := some 28) (v := ?_) (a' := ?_) #[true, true, true, true, true, true, true, false] rfl rfl (any_of HT_.out (by kernel_rfl)) (fun _ _ _ h => h) (Or.inl ⟨by rfl, ?_⟩) ?_ ?_
          rotate_left
          ·intro w'
           go_simp
           with_reducible rfl
          rotate_left
          ·simp only [Act.put, zA, zB, zC, i64_w, i32_w]
           rfl
          refine take_ (i := 7) (N := some 29) (v := ?_) (a' := ?_) #[true, true, true, true, true, true, true, true] rfl rfl (take_ofW HT_.out HW_.out (by kernel_rfl)) (fun _ _ _ h => h) (Or.inl ⟨by rfl, ?_⟩) hHeld ?_ ?_
          rotate_left
          ·rintro w' ⟨s0, s1, s2, s3, s4, s5⟩
           go_simp
           with_reducible rfl
          rotate_left
          ·simp only [Act.put, zA, zB, zC, i64_w, i32_w]
           rfl
          refine done_ (done_of HT_.out (by kernel_rfl)) ?_
          try go_wp2
          have n0_ := yA (yD HO_4.out)
          have n1_ := yA (Kd.N_drew HO_5.out)
          have n2_ := yA (yT BK609.out)
          have n3_ := yA (yP HB.out)
          clear HO_4
          clear HO_5
          clear BK609
          clear HB
          have HO_4 := n0_
          have HO_5 := n1_
          have BK609 := n2_
          have HB := n3_
          clear n0_ n1_ n2_ n3_
          obtain ⟨Ao25, co25, eo25⟩ := Kd.N_slice HO_5.out
          (first | subst eo25 | (injection eo25 with f1_ f2_ f3_; have f4_ := f1_.symm; have f5_ := f3_.symm; clear f1_ f2_ f3_; subst f4_; subst f5_))
          have p628 : 0 ≤ (x6_1 : Int) := zG (by first | (with_reducible assumption) | assumption)
          have q628 : x6_1 < (x5_1.length : Int) := zG (by first | (with_reducible assumption) | assumption)
          obtain ⟨ad628, A628_0, c628_0, e628, hx628_0, hl628_0, hi628_0⟩ := at_L1 (Kd.N_reads' HO_5.out).2.2 x6_1 p628 q628
          cases e628
          obtain ⟨ce628, hce628, hMe628, hcc628⟩ := Kd.N_get HO_5.out [] x6_1 p628 (by first | exact q628 | exact zG (by first | (with_reducible assumption) | assumption) | (have e_ := (Kd.N_reads' HO_5.out).1; omega))
          obtain ⟨ua628_0, uc628_0, rfl, ul628_0, ge628_0⟩ := Kd.FK_slice_open hMe628
          have hv628_0 := hcc628 0 _ rfl
          rw [Nat.add_zero, show ((Kd.slice 3 (Kd.int .i64))).sz = 1 from rfl, Nat.mul_one] at hv628_0
          replace hv628_0 := zU (hv628_0.symm.trans hx628_0)
          injection hv628_0 with hva_ hvn_ hvc_
          rw [hva_] at ge628_0
          rw [hvc_] at ul628_0
          have HL628_0 := yA (show Kd.V (Kd.int .i64) 3 _ w.heap.size _ _ (rd_L1 x5_1 x6_1) from Kd.V_mk ul628_0 ge628_0)
          clear hva_ hvn_ hvc_ ge628_0 ul628_0
          clear hcc628 hce628
          have HR628_0 := yA hi628_0
          have HC628_0 := yA hl628_0
          clear hi628_0 hl628_0
          replace p628 := eq_true p628
          replace q628 := eq_true q628
          refine start_ (n := 8) (S := fun w' => w'.cell? ⟨gb609, 0, none⟩ = some (.int .i64 a0_0) ∧ w'.cell? ⟨gb609, 1, none⟩ = some (.int .i64 a0_1) ∧ w'.cell? ⟨gb609, 2, none⟩ = some (.slice A0_2 l0_2.length c0_2) ∧ w'.cell? ⟨gb609, 3, none⟩ = some (.slice (some ad627) l0_3.length c0_3) ∧ w'.cell? (ad628.add (x6_1).toNat) = some (.slice A628_0 (rd_L1 x5_1 x6_1).length c628_0)) (ds := []) #[false, false, false, false, false, false, false, false] (by kernel_rfl) rfl rfl ⟨(yV BK609.out 0).trans rfl, (yV BK609.out 1).trans rfl, (yV BK609.out 2).trans rfl, (yV BK609.out 3).trans rfl, hx628_0⟩ (fun hHeld => ?_); refine with_tabW spec_LeastMember.tab9 spec_LeastMember.bits9 (fun HT_ HW_ => ?_)
          generalize w23.drew = w24 at HO_4 HO_5 BK609 HB HL628_0 HR628_0 hx628_0 hHeld ⊢
          refine pure_ (i := 1) (N := some 31) (v := ?_) (a' := ?_) #[false, true, false, false, false, false, false, false] rfl rfl (any_of HT_.out (by kernel_rfl)) (fun _ _ _ h => h) (Or.inl ⟨by rfl, ?_⟩) ?_ ?_
          rotate_left
          ·intro w'
           go_simp
           with_reducible rfl
          rotate_left
          ·simp only [Act.put, zA, zB, zC, i64_w, i32_w]
           rfl
          refine pure_ (i := 2) (N := some 32) (v := ?_) (a' := ?_) #[false, true, true, false, false, false, false, false] rfl rfl (any_of HT_.out (by kernel_rfl)) (fun _ _ _ h => h) (Or.inl ⟨by rfl, ?_⟩) ?_ ?_
          rotate_left
          ·intro w'
           go_simp
           with_reducible rfl
          rotate_left
          ·simp only [Act.put, zA, zB, zC, i64_w, i32_w]
           rfl
          refine pure_ (i := 3) (N := some 33) (v := ?_) (a' := ?_) #[false, true, true, true, false, false, false, false] rfl rfl (any_of HT_.out (by kernel_rfl)) (fun _ _ _ h => h) (Or.inl ⟨by rfl, ?_⟩) ?_ ?_
          rotate_left
          ·intro w'
           go_simp
           with_reducible rfl
          rotate_left
          ·simp only [Act.put, zA, zB, zC, i64_w, i32_w]
           rfl
          refine take_ (i := 0) (N := some 30) (v := ?_) (a' := ?_) #[true, true, true, true, false, false, false, false] rfl rfl (take_ofW HT_.out HW_.out (by kernel_rfl)) (fun _ _ _ h => h) (Or.inl ⟨by rfl, ?_⟩) hHeld ?_ ?_
          rotate_left
          ·rintro w' ⟨s0, s1, s2, s3, s4⟩
           go_simp
           with_reducible rfl
          rotate_left
          ·simp only [Act.put, zA, zB, zC, i64_w, i32_w]
           rfl
          refine take_ (i := 4) (N := some 34) (v := ?_) (a' := ?_) #[true, true, true, true, true, false, false, false] rfl rfl (take_ofW HT_.out HW_.out (by kernel_rfl)) (fun _ _ _ h => h) (Or.inl ⟨by rfl, ?_⟩) hHeld ?_ ?_
          rotate_left
          ·rintro w' ⟨s0, s1, s2, s3, s4⟩
           go_simp
           with_reducible rfl
          rotate_left
          ·simp only [Act.put, zA, zB, zC, i64_w, i32_w]
           rfl
          refine one_ (i := 5) (N := some 35) #[true, true, true, true, true, true, false, false] rfl rfl (one_of HT_.out (by kernel_rfl)) (by decide) (fun K hK => ?_)
          refine goes_ Try.func73 (by kernel_rfl) rfl #[.agg #[.int .i64 a0_0, .int .i64 a0_1, .slice A0_2 l0_2.length c0_2, .slice (some ad627) l0_3.length c0_3], .slice A628_0 (rd_L1 x5_1 x6_1).length c628_0] (by rfl) rfl rfl (by (try simp only [zI, zJ, zK]); first | done | rfl | (simp only [zL, zM]; rfl)) ?_
          with_reducible refine (spec_l15Numbers.calls k1 a0_0 a0_1 _ _ l0_2 _ _ l0_3 _ _ (rd_L1 x5_1 x6_1) t629 _ ?side1 ?side2 ?side3 ?side4 ?side5 ?side6 A21.out).mono ?_
          (case side1 => exact mC (yM HR0_2.out HB.out))
          (case side2 => exact HC0_2.out)
          (case side3 => exact mC (yM HR0_3.out HB.out))
          (case side4 => exact HC0_3.out)
          (case side5 => exact mC (by repeat (first | (with_reducible exact HR628_0.out) | (with_reducible refine yE ?_ _) | (with_reducible refine yF ?_ _) | (with_reducible refine yG ?_) | exact HR628_0.out)))
          (case side6 => exact HC628_0.out)
          rintro e w26 ⟨v630, rfl, ho0, hb⟩
          have HS4_ := (hb.cell (zE _ _ (hHeld.2.2.2.2))).trans (hHeld.2.2.2.2)
          refine ⟨_, rfl, ?_⟩
          have n0_ := yA (zO (mR HO_4.out) (yY ho0) hb)
          have n1_ := yA (Kd.N_elder' (by (with_reducible repeat (first | apply Kd.N_alloc | apply Kd.N_drewN | apply Kd.N_drew)); exact HO_5.out) (yY ho0) hb)
          have n2_ := yA (Kd.V_elder' (by (with_reducible repeat (first | apply Kd.V_alloc | apply Kd.V_drewN | apply Kd.V_drew)); exact HL628_0.out) (yY ho0) hb)
          have n3_ := yA (Kd.R_lower (Kd.R_new' ho0 (yZ (mR HO_4.out))) (yX (by with_reducible repeat first | exact HB.out | apply yO | apply yN | apply yP | refine yQ ?_ GE609.out)))
          have n4_ := yA (yU (mK BK609.out) hb)
          have n5_ := yA (yM (by repeat (first | (with_reducible exact HR628_0.out) | (with_reducible refine yE ?_ _) | (with_reducible refine yF ?_ _) | (with_reducible refine yG ?_) | exact HR628_0.out)) hb)
          have n6_ := yA (zD (by with_reducible repeat first | exact HB.out | apply yO | apply yN | apply yP | refine yQ ?_ GE609.out) hb)
          clear HO_4
          clear HO_5
          clear HL628_0
          clear BK609
          clear HR628_0
          clear HB
          have HO_4 := n0_
          have HO_5 := n1_
          have HL628_0 := n2_
          have HO631 := n3_
          have BK609 := n4_
          have HR628_0 := n5_
          have HB := n6_
          clear n0_ n1_ n2_ n3_ n4_ n5_ n6_
          (try clear hb)
          (try clear hb2)
          (try clear hk)
          (try clear hi)
          (try clear ho0)
          refine hK.out _ _ ⟨(yV BK609.out 0).trans rfl, (yV BK609.out 1).trans rfl, (yV BK609.out 2).trans rfl, (yV BK609.out 3).trans rfl, HS4_⟩ (fun hHeld => ?_)
          clear hK K
          refine norm_ (a' := ?_) ?_ ?_
          rotate_left
          ·show Act.put _ (some 35) _ = _
           simp only [Act.put, zA, zB, zC, i64_w, i32_w]
           rfl
          refine pure_ (i := 6) (N := some 2) (v := ?_) (a' := ?_) #[true, true, true, true, true, true, true, false] rfl rfl (any_of HT_.out (by kernel_rfl)) (fun _ _ _ h => h) (Or.inl ⟨by rfl, ?_⟩) ?_ ?_
          rotate_left
          ·intro w'
           go_simp
           with_reducible rfl
          rotate_left
          ·simp only [Act.put, zA, zB, zC, i64_w, i32_w]
           rfl
          refine pure_ (i := 7) (N := some 3) (v := ?_) (a' := ?_) #[true, true, true, true, true, true, true, true] rfl rfl (any_of HT_.out (by kernel_rfl)) (fun _ _ _ h => h) (Or.inl ⟨by rfl, ?_⟩) ?_ ?_
          rotate_left
          ·intro w'
           go_simp
           with_reducible rfl
          rotate_left
          ·simp only [Act.put, zA, zB, zC, i64_w, i32_w]
           rfl
          refine done_ (done_of HT_.out (by kernel_rfl)) ?_
          try go_wp2
          go_ret2
          exact ⟨_, by first | rfl | (simp [errW_none, errW_some] <;> rfl) | (simp [*, errW_none, errW_some] <;> rfl), by (with_reducible repeat (first | apply yB | apply yC | apply yD)); exact zP HO631.out (fun _ hk => trivial), by repeat (first | (with_reducible first | exact HB.out | apply yO | apply yN | apply yP | refine yQ ?_ GE609.out) | exact HB.out)⟩
         ·rw [if_neg c20] at H
          exact absurd H (by simp)
        ·replace c19 := Bool.eq_false_iff.mpr c19
         subst c19
         have H1 : (spec_LeastMember.l1 k1 x4_1 x5_1 x6_1 0 a0_0 a0_1 l0_2 l0_3) = some (r1, r2) := by rw [if_neg (show ¬ (false = true) by decide)] at H; exact H
         clear H
         have H := H1
         clear H1
         have H' := yA H
         clear H
         obtain ⟨Ao27, co27, eo27⟩ := Kd.R_slice HO_4.out
         subst eo27
         try go_wp2
         have n0_ := yA (yD HO_4.out)
         have n1_ := yA (Kd.N_drew HO_5.out)
         have n2_ := yA (yT BK609.out)
         have n3_ := yA (yP HB.out)
         clear HO_4
         clear HO_5
         clear BK609
         clear HB
         have HO_4 := n0_
         have HO_5 := n1_
         have BK609 := n2_
         have HB := n3_
         clear n0_ n1_ n2_ n3_
         have p626 : 0 ≤ (x6_1 : Int) := zG (by first | (with_reducible assumption) | assumption)
         have q626 : x6_1 < (x4_1.length : Int) := zG (by first | (with_reducible assumption) | assumption)
         obtain ⟨ad626, e626, hx626_0⟩ := Kd.at_int (zN HO_4.out).2.2 x6_1 p626 q626
         cases e626
         replace p626 := eq_true p626
         replace q626 := eq_true q626
         have p627 : 0 ≤ ((rd x4_1 x6_1) : Int) := zG (by first | (with_reducible assumption) | assumption)
         have q627 : (rd x4_1 x6_1) < (l0_3.length : Int) := zG (by first | (with_reducible assumption) | assumption)
         obtain ⟨ad627, e627, hx627_0⟩ := Kd.at_bool HR0_3.out (rd x4_1 x6_1) p627 q627
         have hw627_0 := hx627_0
         (try rw [← Nbq18.out] at hw627_0)
         (try rw [← Nbq18.out] at hx627_0)
         cases e627
         try replace hx627_0 := (HB.out.cell (zE w _ hx627_0)).trans hx627_0
         replace p627 := eq_true p627
         replace q627 := eq_true q627
         refine start_ (n := 8) (S := fun w' => w'.cell? ⟨gb609, 0, none⟩ = some (.int .i64 a0_0) ∧ w'.cell? ⟨gb609, 1, none⟩ = some (.int .i64 a0_1) ∧ w'.cell? ⟨gb609, 2, none⟩ = some (.slice A0_2 l0_2.length c0_2) ∧ w'.cell? ⟨gb609, 3, none⟩ = some (.slice (some ad627) l0_3.length c0_3) ∧ w'.cell? (ad626.add (x6_1).toNat) = some (.int .i64 (rd x4_1 x6_1)) ∧ w'.cell? (ad627.add ((rd x4_1 x6_1)).toNat) = some (.bool false)) (ds := []) #[false, false, false, false, false, false, false, false] (by kernel_rfl) rfl rfl ⟨(yV BK609.out 0).trans rfl, (yV BK609.out 1).trans rfl, (yV BK609.out 2).trans rfl, (yV BK609.out 3).trans rfl, hx626_0, ((HB.out.cell (zE w _ hw627_0)).trans hw627_0)⟩ (fun hHeld => ?_); refine with_tabW spec_LeastMember.tab8 spec_LeastMember.bits8 (fun HT_ HW_ => ?_)
         generalize wr.drew = w28 at HO_4 HO_5 BK609 HB hx626_0 hx627_0 hHeld ⊢
         refine pure_ (i := 0) (N := some 22) (v := ?_) (a' := ?_) #[true, false, false, false, false, false, false, false] rfl rfl (any_of HT_.out (by kernel_rfl)) (fun _ _ _ h => h) (Or.inl ⟨by rfl, ?_⟩) ?_ ?_
         rotate_left
         ·intro w'
          go_simp
          with_reducible rfl
         rotate_left
         ·simp only [Act.put, zA, zB, zC, i64_w, i32_w]
          rfl
         refine pure_ (i := 2) (N := some 24) (v := ?_) (a' := ?_) #[true, false, true, false, false, false, false, false] rfl rfl (any_of HT_.out (by kernel_rfl)) (fun _ _ _ h => h) (Or.inl ⟨by rfl, ?_⟩) ?_ ?_
         rotate_left
         ·intro w'
          go_simp
          with_reducible rfl
         rotate_left
         ·simp only [Act.put, zA, zB, zC, i64_w, i32_w]
          rfl
         refine pure_ (i := 3) (N := some 25) (v := ?_) (a' := ?_) #[true, false, true, true, false, false, false, false] rfl rfl (any_of HT_.out (by kernel_rfl)) (fun _ _ _ h => h) (Or.inl ⟨by rfl, ?_⟩) ?_ ?_
         rotate_left
         ·intro w'
          go_simp
          with_reducible rfl
         rotate_left
         ·simp only [Act.put, zA, zB, zC, i64_w, i32_w]
          rfl
         refine pure_ (i := 4) (N := some 26) (v := ?_) (a' := ?_) #[true, false, true, true, true, false, false, false] rfl rfl (any_of HT_.out (by kernel_rfl)) (fun _ _ _ h => h) (Or.inl ⟨by rfl, ?_⟩) ?_ ?_
         rotate_left
         ·intro w'
          go_simp
          with_reducible rfl
         rotate_left
         ·simp only [Act.put, zA, zB, zC, i64_w, i32_w]
          rfl
         refine take_ (i := 1) (N := some 23) (v := ?_) (a' := ?_) #[true, true, true, true, true, false, false, false] rfl rfl (take_ofW HT_.out HW_.out (by kernel_rfl)) (fun _ _ _ h => h) (Or.inl ⟨by rfl, ?_⟩) hHeld ?_ ?_
         rotate_left
         ·rintro w' ⟨s0, s1, s2, s3, s4, s5⟩
          go_simp
          with_reducible rfl
         rotate_left
         ·simp only [Act.put, zA, zB, zC, i64_w, i32_w]
          rfl
         refine take_ (i := 5) (N := some 27) (v := ?_) (a' := ?_) #[true, true, true, true, true, true, false, false] rfl rfl (take_ofW HT_.out HW_.out (by kernel_rfl)) (fun _ _ _ h => h) (Or.inl ⟨by rfl, ?_⟩) hHeld ?_ ?_
         rotate_left
         ·rintro w' ⟨s0, s1, s2, s3, s4, s5⟩
          go_simp
          with_reducible rfl
         rotate_left
         ·simp only [Act.put, zA, zB, zC, i64_w, i32_w]
          rfl
         refine pure_ (i := 6) (N := some 28) (v := ?_) (a' := ?_) #[true, true, true, true, true, true, true, false] rfl rfl (any_of HT_.out (by kernel_rfl)) (fun _ _ _ h => h) (Or.inl ⟨by rfl, ?_⟩) ?_ ?_
         rotate_left
         ·intro w'
          go_simp
          with_reducible rfl
         rotate_left
         ·simp only [Act.put, zA, zB, zC, i64_w, i32_w]
          rfl
         refine take_ (i := 7) (N := some 29) (v := ?_) (a' := ?_) #[true, true, true, true, true, true, true, true] rfl rfl (take_ofW HT_.out HW_.out (by kernel_rfl)) (fun _ _ _ h => h) (Or.inl ⟨by rfl, ?_⟩) hHeld ?_ ?_
         rotate_left
         ·rintro w' ⟨s0, s1, s2, s3, s4, s5⟩
          go_simp
          with_reducible rfl
         rotate_left
         ·simp only [Act.put, zA, zB, zC, i64_w, i32_w]
          rfl
         refine done_ (done_of HT_.out (by kernel_rfl)) ?_
         try go_wp2
         go_loopg [4, 5, 7] k1 (fun kq v4 v5 v7 w' => ∃ (x4_2 : List Int) (x5_2 : List (List Int)) (x7_2 : Int), v7 = .int .i64 x7_2 ∧ Aside0 (spec_LeastMember.l1 kq x4_2 x5_2 x6_1 x7_2 a0_0 a0_1 l0_2 l0_3 = some (r1, r2)) ∧ Aside0 (kq ≤ k1) ∧ Aside0 (Kd.R (Kd.int .i64) 3 w' w.heap.size (fun _ => True) v4 x4_2) ∧ Aside0 (Kd.N (Kd.slice 3 (Kd.int .i64)) 38 w' w.heap.size (fun k_ => some k_ ≠ (v4 : Value).ownBlock ∧ k_ ≠ gb609) v5 x5_2) ∧ Aside0 (w'.heap[gb609]? = some (.cells #[.int .i64 a0_0, .int .i64 a0_1, (.slice A0_2 l0_2.length c0_2), (.slice (some ad627) l0_3.length c0_3)] 25 (0, 0))) ∧ Aside0 (Below w.heap.size w w'))
         case atStart => exact ⟨(x4_1), (x5_1), (0), (by first | rfl | (simp; done) | (simp [*]; done)), H', ⟨zT _⟩, ⟨by (with_reducible repeat (first | apply yB | apply yC | apply yD)); exact HO_4.out⟩, ⟨by (with_reducible repeat (first | apply Kd.N_alloc | apply Kd.N_drewN | apply Kd.N_drew)); exact HO_5.out⟩, ⟨by (with_reducible repeat (first | refine yS ?_ _ | refine yT ?_ | refine yR ?_ _)); exact BK609.out⟩, ⟨by repeat (first | (with_reducible first | exact HB.out | apply yO | apply yN | apply yP | refine yQ ?_ GE609.out) | exact HB.out)⟩⟩
         case round =>
          clear H'
          try clear c1
          try clear q1
          try clear c2
          try clear p2
          try clear c3
          try clear c6
          try clear p6
          try clear q6
          try clear hx6
          try clear c7
          try clear c14
          try clear c14b0
          try clear c15
          try clear c15b0
          try clear c16
          try clear c16b0
          try clear c17
          try clear c17b0
          try clear q18
          try clear c19
          try clear c20
          try clear c20b0
          try clear hcz5_0
          try clear hcz5_1
          try clear hcz5_2
          try clear hcz5_3
          try clear hfz5_0
          try clear hfz5_1
          try clear hfz5_2
          try clear hfz5_3
          try clear hx626_0
          try clear hx627_0
          try clear hx628_0
          try clear p2
          try clear p626
          try clear p627
          try clear p628
          try clear q626
          try clear q627
          try clear q628
          obtain ⟨x4_2, x5_2, x7_2, rfl, HA, HK2, HO_4, HO_5, BK609, HB⟩ := hrel
          cases gk with
          | zero => exact absurd HA.out (by simp [spec_LeastMember.l1])
          | succ k2 =>
           have H := HA.out
           clear HA
           simp only [spec_LeastMember.l1] at H
           by_cases c29 : 0 ≤ x6_1
           ·rw [if_pos c29] at H
            have c29b0 : decide (0 ≤ x6_1) = true := zH c29
            clear c29
            by_cases c30 : x6_1 < (x4_2.length : Int)
            ·rw [if_pos c30] at H
             have c30b0 : decide (x6_1 < (x4_2.length : Int)) = true := zH c30
             clear c30
             by_cases c31 : 0 ≤ (rd x4_2 x6_1)
             ·rw [if_pos c31] at H
              have c31b0 : decide (0 ≤ (rd x4_2 x6_1)) = true := zH c31
              clear c31
              by_cases c32 : (rd x4_2 x6_1) < (l0_2.length : Int)
              ·rw [if_pos c32] at H
               have c32b0 : decide ((rd x4_2 x6_1) < (l0_2.length : Int)) = true := zH c32
               clear c32
               by_cases c33 : x7_2 < ((rd_L1 l0_2 (rd x4_2 x6_1)).length : Int)
               ·rw [if_pos c33] at H
                have c33b0 : decide (x7_2 < ((rd_L1 l0_2 (rd x4_2 x6_1)).length : Int)) = true := zH c33
                clear c33
                by_cases c34 : 0 ≤ x7_2
                ·rw [if_pos c34] at H
                 have c34b0 : decide (0 ≤ x7_2) = true := zH c34
                 clear c34
                 replace H := Option.bind_eq_some_iff.mp H
                 obtain ⟨t637, A350, H⟩ := H
                 replace H : (if t637 = true then (spec_LeastMember.l1 k2 x4_2 x5_2 x6_1 (wrap64 (x7_2 + 1)) a0_0 a0_1 l0_2 l0_3) else (if x6_1 < (x5_2.length : Int) then (if ((rd_L1 x5_2 x6_1).length : Int) < 16 then (if x4_2.length < 17592186044416 then ((some (([] : List Int) : List Int)).bind fun y642 => (if y642.length + (rd_L1 x5_2 x6_1).length < 17592186044416 then ((some (y642 ++ (rd_L1 x5_2 x6_1) : List Int)).bind fun y646 => (if y646.length < 17592186044416 then (if x5_2.length < 5864062014805 then (spec_LeastMember.l1 k2 (x4_2 ++ [rd (rd_L1 l0_2 (rd x4_2 x6_1)) x7_2]) (x5_2 ++ [(y646 ++ [x7_2])]) x6_1 (wrap64 (x7_2 + 1)) a0_0 a0_1 l0_2 l0_3) else (none)) else (none))) else (none))) else (none)) else (spec_LeastMember.l1 k2 x4_2 x5_2 x6_1 (wrap64 (x7_2 + 1)) a0_0 a0_1 l0_2 l0_3)) else (none))) = some (r1, r2) := H
                 have A35 := yA A350
                 clear A350
                 by_cases c36 : t637 = true
                 ·subst c36
                  have H1 : (spec_LeastMember.l1 k2 x4_2 x5_2 x6_1 (wrap64 (x7_2 + 1)) a0_0 a0_1 l0_2 l0_3) = some (r1, r2) := by rw [if_pos rfl] at H; exact H
                  clear H
                  have H := H1
                  clear H1
                  have H' := yA H
                  clear H
                  try go_wp2
                  have n0_ := yA (yD HO_4.out)
                  have n1_ := yA (Kd.N_drew HO_5.out)
                  have n2_ := yA (yT BK609.out)
                  have n3_ := yA (yP HB.out)
                  clear HO_4
                  clear HO_5
                  clear BK609
                  clear HB
                  have HO_4 := n0_
                  have HO_5 := n1_
                  have BK609 := n2_
                  have HB := n3_
                  clear n0_ n1_ n2_ n3_
                  obtain ⟨Ao38, co38, eo38⟩ := Kd.R_slice HO_4.out
                  (first | subst eo38 | (injection eo38 with f1_ f2_ f3_; have f4_ := f1_.symm; have f5_ := f3_.symm; clear f1_ f2_ f3_; subst f4_; subst f5_))
                  have p632 : 0 ≤ (x6_1 : Int) := zG (by first | (with_reducible assumption) | assumption)
                  have q632 : x6_1 < (x4_2.length : Int) := zG (by first | (with_reducible assumption) | assumption)
                  obtain ⟨ad632, e632, hx632_0⟩ := Kd.at_int (zN HO_4.out).2.2 x6_1 p632 q632
                  cases e632
                  replace p632 := eq_true p632
                  replace q632 := eq_true q632
                  have p633 : 0 ≤ ((rd x4_2 x6_1) : Int) := zG (by first | (with_reducible assumption) | assumption)
                  have q633 : (rd x4_2 x6_1) < (l0_2.length : Int) := zG (by first | (with_reducible assumption) | assumption)
                  obtain ⟨ad633, A633_0, c633_0, e633, hx633_0, hl633_0, hi633_0⟩ := at_L1 HR0_2.out (rd x4_2 x6_1) p633 q633
                  have hw633_0 := hx633_0
                  cases e633
                  try replace hx633_0 := (HB.out.cell (zE w _ hx633_0)).trans hx633_0
                  have HR633_0 := yA hi633_0
                  have HC633_0 := yA hl633_0
                  clear hi633_0 hl633_0
                  replace p633 := eq_true p633
                  replace q633 := eq_true q633
                  refine start_ (n := 11) (S := fun w' => w'.cell? ⟨gb609, 0, none⟩ = some (.int .i64 a0_0) ∧ w'.cell? ⟨gb609, 1, none⟩ = some (.int .i64 a0_1) ∧ w'.cell? ⟨gb609, 2, none⟩ = some (.slice (some ad633) l0_2.length c0_2) ∧ w'.cell? ⟨gb609, 3, none⟩ = some (.slice (some ad627) l0_3.length c0_3) ∧ w'.cell? (ad632.add (x6_1).toNat) = some (.int .i64 (rd x4_2 x6_1)) ∧ w'.cell? (ad633.add ((rd x4_2 x6_1)).toNat) = some (.slice A633_0 (rd_L1 l0_2 (rd x4_2 x6_1)).length c633_0)) (ds := []) #[false, false, false, false, false, false, false, false, false, false, false] (by kernel_rfl) rfl rfl ⟨(yV BK609.out 0).trans rfl, (yV BK609.out 1).trans rfl, (yV BK609.out 2).trans rfl, (yV BK609.out 3).trans rfl, hx632_0, ((HB.out.cell (zE w _ hw633_0)).trans hw633_0)⟩ (fun hHeld => ?_); refine with_tabW spec_LeastMember.tab11 spec_LeastMember.bits11 (fun HT_ HW_ => ?_)
                  generalize wr.drew = w37 at HO_4 HO_5 BK609 HB HR633_0 hx632_0 hx633_0 hHeld ⊢
                  refine pure_ (i := 0) (N := some 36) (v := ?_) (a' := ?_) #[true, false, false, false, false, false, false, false, false, false, false] rfl rfl (any_of HT_.out (by kernel_rfl)) (fun _ _ _ h => h) (Or.inl ⟨by rfl, ?_⟩) ?_ ?_
                  rotate_left
                  ·intro w'
                   go_simp
                   with_reducible rfl
                  rotate_left
                  ·simp only [Act.put, zA, zB, zC, i64_w, i32_w]
                   rfl
                  refine pure_ (i := 1) (N := some 37) (v := ?_) (a' := ?_) #[true, true, false, false, false, false, false, false, false, false, false] rfl rfl (any_of HT_.out (by kernel_rfl)) (fun _ _ _ h => h) (Or.inl ⟨by rfl, ?_⟩) ?_ ?_
                  rotate_left
                  ·intro w'
                   go_simp
                   with_reducible rfl
                  rotate_left
                  ·simp only [Act.put, zA, zB, zC, i64_w, i32_w]
                   rfl
                  refine pure_ (i := 3) (N := some 39) (v := ?_) (a' := ?_) #[true, true, false, true, false, false, false, false, false, false, false] rfl rfl (any_of HT_.out (by kernel_rfl)) (fun _ _ _ h => h) (Or.inl ⟨by rfl, ?_⟩) ?_ ?_
                  rotate_left
                  ·intro w'
                   go_simp
                   with_reducible rfl
                  rotate_left
                  ·simp only [Act.put, zA, zB, zC, i64_w, i32_w]
                   rfl
                  refine pure_ (i := 4) (N := some 40) (v := ?_) (a' := ?_) #[true, true, false, true, true, false, false, false, false, false, false] rfl rfl (any_of HT_.out (by kernel_rfl)) (fun _ _ _ h => h) (Or.inl ⟨by rfl, ?_⟩) ?_ ?_
                  rotate_left
                  ·intro w'
                   go_simp
                   with_reducible rfl
                  rotate_left
                  ·simp only [Act.put, zA, zB, zC, i64_w, i32_w]
                   rfl
                  refine pure_ (i := 5) (N := some 41) (v := ?_) (a' := ?_) #[true, true, false, true, true, true, false, false, false, false, false] rfl rfl (any_of HT_.out (by kernel_rfl)) (fun _ _ _ h => h) (Or.inl ⟨by rfl, ?_⟩) ?_ ?_
                  rotate_left
                  ·intro w'
                   go_simp
                   with_reducible rfl
                  rotate_left
                  ·simp only [Act.put, zA, zB, zC, i64_w, i32_w]
                   rfl
                  refine take_ (i := 2) (N := some 38) (v := ?_) (a' := ?_) #[true, true, true, true, true, true, false, false, false, false, false] rfl rfl (take_ofW HT_.out HW_.out (by kernel_rfl)) (fun _ _ _ h => h) (Or.inl ⟨by rfl, ?_⟩) hHeld ?_ ?_
                  rotate_left
                  ·rintro w' ⟨s0, s1, s2, s3, s4, s5⟩
                   go_simp
                   with_reducible rfl
                  rotate_left
                  ·simp only [Act.put, zA, zB, zC, i64_w, i32_w]
                   rfl
                  refine take_ (i := 6) (N := some 42) (v := ?_) (a' := ?_) #[true, true, true, true, true, true, true, false, false, false, false] rfl rfl (take_ofW HT_.out HW_.out (by kernel_rfl)) (fun _ _ _ h => h) (Or.inl ⟨by rfl, ?_⟩) hHeld ?_ ?_
                  rotate_left
                  ·rintro w' ⟨s0, s1, s2, s3, s4, s5⟩
                   go_simp
                   with_reducible rfl
                  rotate_left
                  ·simp only [Act.put, zA, zB, zC, i64_w, i32_w]
                   rfl
                  refine pure_ (i := 7) (N := some 43) (v := ?_) (a' := ?_) #[true, true, true, true, true, true, true, true, false, false, false] rfl rfl (any_of HT_.out (by kernel_rfl)) (fun _ _ _ h => h) (Or.inl ⟨by rfl, ?_⟩) ?_ ?_
                  rotate_left
                  ·intro w'
                   go_simp
                   with_reducible rfl
                  rotate_left
                  ·simp only [Act.put, zA, zB, zC, i64_w, i32_w]
                   rfl
                  refine take_ (i := 8) (N := some 44) (v := ?_) (a' := ?_) #[true, true, true, true, true, true, true, true, true, false, false] rfl rfl (take_ofW HT_.out HW_.out (by kernel_rfl)) (fun _ _ _ h => h) (Or.inl ⟨by rfl, ?_⟩) hHeld ?_ ?_
                  rotate_left
                  ·rintro w' ⟨s0, s1, s2, s3, s4, s5⟩
                   go_simp
                   with_reducible rfl
                  rotate_left
                  ·simp only [Act.put, zA, zB, zC, i64_w, i32_w]
                   rfl
                  refine pure_ (i := 9) (N := some 45) (v := ?_) (a' := ?_) #[true, true, true, true, true, true, true, true, true, true, false] rfl rfl (any_of HT_.out (by kernel_rfl)) (fun _ _ _ h => h) (Or.inl ⟨by rfl, ?_⟩) ?_ ?_
                  rotate_left
                  ·intro w'
                   go_simp
                   with_reducible rfl
                  rotate_left
                  ·simp only [Act.put, zA, zB, zC, i64_w, i32_w]
                   rfl
                  refine pure_ (i := 10) (N := some 46) (v := ?_) (a' := ?_) #[true, true, true, true, true, true, true, true, true, true, true] rfl rfl (any_of HT_.out (by kernel_rfl)) (fun _ _ _ h => h) (Or.inl ⟨by rfl, ?_⟩) ?_ ?_
                  rotate_left
                  ·intro w'
                   go_simp
                   with_reducible rfl
                  rotate_left
                  ·simp only [Act.put, zA, zB, zC, i64_w, i32_w]
                   rfl
                  refine done_ (done_of HT_.out (by kernel_rfl)) ?_
                  try go_wp2
                  have n0_ := yA (yD HO_4.out)
                  have n1_ := yA (Kd.N_drew HO_5.out)
                  have n2_ := yA (yT BK609.out)
                  have n3_ := yA (yP HB.out)
                  clear HO_4
                  clear HO_5
                  clear BK609
                  clear HB
                  have HO_4 := n0_
                  have HO_5 := n1_
                  have BK609 := n2_
                  have HB := n3_
                  clear n0_ n1_ n2_ n3_
                  have p634 : 0 ≤ (x6_1 : Int) := zG (by first | (with_reducible assumption) | assumption)
                  have q634 : x6_1 < (x4_2.length : Int) := zG (by first | (with_reducible assumption) | assumption)
                  obtain ⟨ad634, e634, hx634_0⟩ := Kd.at_int (zN HO_4.out).2.2 x6_1 p634 q634
                  obtain rfl : ad632 = ad634 := (by injection e634)
                  replace p634 := eq_true p634
                  replace q634 := eq_true q634
                  have p635 : 0 ≤ ((rd x4_2 x6_1) : Int) := zG (by first | (with_reducible assumption) | assumption)
                  have q635 : (rd x4_2 x6_1) < (l0_2.length : Int) := zG (by first | (with_reducible assumption) | assumption)
                  obtain ⟨ad635, A635_0, c635_0, e635, hx635_0, hl635_0, hi635_0⟩ := at_L1 HR0_2.out (rd x4_2 x6_1) p635 q635
                  have hw635_0 := hx635_0
                  obtain rfl : ad633 = ad635 := (by injection e635)
                  try replace hx635_0 := (HB.out.cell (zE w _ hx635_0)).trans hx635_0
                  have HR635_0 := yA hi635_0
                  have HC635_0 := yA hl635_0
                  clear hi635_0 hl635_0
                  replace p635 := eq_true p635
                  replace q635 := eq_true q635
                  have p636 : 0 ≤ (x7_2 : Int) := zG (by first | (with_reducible assumption) | assumption)
                  have q636 : x7_2 < ((rd_L1 l0_2 (rd x4_2 x6_1)).length : Int) := zG (by first | (with_reducible assumption) | assumption)
                  obtain ⟨ad636, e636, hx636_0⟩ := Kd.at_int HR635_0.out x7_2 p636 q636
                  have hw636_0 := hx636_0
                  cases e636
                  try replace hx636_0 := (HB.out.cell (zE w _ hx636_0)).trans hx636_0
                  replace p636 := eq_true p636
                  replace q636 := eq_true q636
                  refine start_ (n := 12) (S := fun w' => w'.cell? ⟨gb609, 0, none⟩ = some (.int .i64 a0_0) ∧ w'.cell? ⟨gb609, 1, none⟩ = some (.int .i64 a0_1) ∧ w'.cell? ⟨gb609, 2, none⟩ = some (.slice (some ad633) l0_2.length c0_2) ∧ w'.cell? ⟨gb609, 3, none⟩ = some (.slice (some ad627) l0_3.length c0_3) ∧ w'.cell? (ad632.add (x6_1).toNat) = some (.int .i64 (rd x4_2 x6_1)) ∧ w'.cell? (ad633.add ((rd x4_2 x6_1)).toNat) = some (.slice (some ad636) (rd_L1 l0_2 (rd x4_2 x6_1)).length c635_0) ∧ w'.cell? (ad636.add (x7_2).toNat) = some (.int .i64 (rd (rd_L1 l0_2 (rd x4_2 x6_1)) x7_2))) (ds := []) #[false, false, false, false, false, false, false, false, false, false, false, false] (by kernel_rfl) rfl rfl ⟨(yV BK609.out 0).trans rfl, (yV BK609.out 1).trans rfl, (yV BK609.out 2).trans rfl, (yV BK609.out 3).trans rfl, hx634_0, ((HB.out.cell (zE w _ hw635_0)).trans hw635_0), ((HB.out.cell (zE w _ hw636_0)).trans hw636_0)⟩ (fun hHeld => ?_); refine with_tabW spec_LeastMember.tab13 spec_LeastMember.bits13 (fun HT_ HW_ => ?_)
                  generalize w37.drew = w39 at HO_4 HO_5 BK609 HB HR635_0 hx634_0 hx635_0 hx636_0 hHeld ⊢
                  refine pure_ (i := 0) (N := some 49) (v := ?_) (a' := ?_) #[true, false, false, false, false, false, false, false, false, false, false, false] rfl rfl (any_of HT_.out (by kernel_rfl)) (fun _ _ _ h => h) (Or.inl ⟨by rfl, ?_⟩) ?_ ?_
                  rotate_left
                  ·intro w'
                   go_simp
                   with_reducible rfl
                  rotate_left
                  ·simp only [Act.put, zA, zB, zC, i64_w, i32_w]
                   rfl
                  refine pure_ (i := 2) (N := some 51) (v := ?_) (a' := ?_) #[true, false, true, false, false, false, false, false, false, false, false, false] rfl rfl (any_of HT_.out (by kernel_rfl)) (fun _ _ _ h => h) (Or.inl ⟨by rfl, ?_⟩) ?_ ?_
                  rotate_left
                  ·intro w'
                   go_simp
                   with_reducible rfl
                  rotate_left
                  ·simp only [Act.put, zA, zB, zC, i64_w, i32_w]
                   rfl
                  refine pure_ (i := 3) (N := some 52) (v := ?_) (a' := ?_) #[true, false, true, true, false, false, false, false, false, false, false, false] rfl rfl (any_of HT_.out (by kernel_rfl)) (fun _ _ _ h => h) (Or.inl ⟨by rfl, ?_⟩) ?_ ?_
                  rotate_left
                  ·intro w'
                   go_simp
                   with_reducible rfl
                  rotate_left
                  ·simp only [Act.put, zA, zB, zC, i64_w, i32_w]
                   rfl
                  refine pure_ (i := 4) (N := some 53) (v := ?_) (a' := ?_) #[true, false, true, true, true, false, false, false, false, false, false, false] rfl rfl (any_of HT_.out (by kernel_rfl)) (fun _ _ _ h => h) (Or.inl ⟨by rfl, ?_⟩) ?_ ?_
                  rotate_left
                  ·intro w'
                   go_simp
                   with_reducible rfl
                  rotate_left
                  ·simp only [Act.put, zA, zB, zC, i64_w, i32_w]
                   rfl
                  refine pure_ (i := 8) (N := some 57) (v := ?_) (a' := ?_) #[true, false, true, true, true, false, false, false, true, false, false, false] rfl rfl (any_of HT_.out (by kernel_rfl)) (fun _ _ _ h => h) (Or.inl ⟨by rfl, ?_⟩) ?_ ?_
                  rotate_left
                  ·intro w'
                   go_simp
                   with_reducible rfl
                  rotate_left
                  ·simp only [Act.put, zA, zB, zC, i64_w, i32_w]
                   rfl
                  refine take_ (i := 1) (N := some 50) (v := ?_) (a' := ?_) #[true, true, true, true, true, false, false, false, true, false, false, false] rfl rfl (take_ofW HT_.out HW_.out (by kernel_rfl)) (fun _ _ _ h => h) (Or.inl ⟨by rfl, ?_⟩) hHeld ?_ ?_
                  rotate_left
                  ·rintro w' ⟨s0, s1, s2, s3, s4, s5, s6⟩
                   go_simp
                   with_reducible rfl
                  rotate_left
                  ·simp only [Act.put, zA, zB, zC, i64_w, i32_w]
                   rfl
                  refine take_ (i := 5) (N := some 54) (v := ?_) (a' := ?_) #[true, true, true, true, true, true, false, false, true, false, false, false] rfl rfl (take_ofW HT_.out HW_.out (by kernel_rfl)) (fun _ _ _ h => h) (Or.inl ⟨by rfl, ?_⟩) hHeld ?_ ?_
                  rotate_left
                  ·rintro w' ⟨s0, s1, s2, s3, s4, s5, s6⟩
                   go_simp
                   with_reducible rfl
                  rotate_left
                  ·simp only [Act.put, zA, zB, zC, i64_w, i32_w]
                   rfl
                  refine pure_ (i := 6) (N := some 55) (v := ?_) (a' := ?_) #[true, true, true, true, true, true, true, false, true, false, false, false] rfl rfl (any_of HT_.out (by kernel_rfl)) (fun _ _ _ h => h) (Or.inl ⟨by rfl, ?_⟩) ?_ ?_
                  rotate_left
                  ·intro w'
                   go_simp
                   with_reducible rfl
                  rotate_left
                  ·simp only [Act.put, zA, zB, zC, i64_w, i32_w]
                   rfl
                  refine take_ (i := 7) (N := some 56) (v := ?_) (a' := ?_) #[true, true, true, true, true, true, true, true, true, false, false, false] rfl rfl (take_ofW HT_.out HW_.out (by kernel_rfl)) (fun _ _ _ h => h) (Or.inl ⟨by rfl, ?_⟩) hHeld ?_ ?_
                  rotate_left
                  ·rintro w' ⟨s0, s1, s2, s3, s4, s5, s6⟩
                   go_simp
                   with_reducible rfl
                  rotate_left
                  ·simp only [Act.put, zA, zB, zC, i64_w, i32_w]
                   rfl
                  refine pure_ (i := 9) (N := some 58) (v := ?_) (a' := ?_) #[true, true, true, true, true, true, true, true, true, true, false, false] rfl rfl (any_of HT_.out (by kernel_rfl)) (fun _ _ _ h => h) (Or.inl ⟨by rfl, ?_⟩) ?_ ?_
                  rotate_left
                  ·intro w'
                   go_simp
                   with_reducible rfl
                  rotate_left
                  ·simp only [Act.put, zA, zB, zC, i64_w, i32_w]
                   rfl
                  refine take_ (i := 10) (N := some 59) (v := ?_) (a' := ?_) #[true, true, true, true, true, true, true, true, true, true, true, false] rfl rfl (take_ofW HT_.out HW_.out (by kernel_rfl)) (fun _ _ _ h => h) (Or.inl ⟨by rfl, ?_⟩) hHeld ?_ ?_
                  rotate_left
                  ·rintro w' ⟨s0, s1, s2, s3, s4, s5, s6⟩
                   go_simp
                   with_reducible rfl
                  rotate_left
                  ·simp only [Act.put, zA, zB, zC, i64_w, i32_w]
                   rfl
                  refine pure_ (i := 11) (N := some 8) (v := ?_) (a' := ?_) #[true, true, true, true, true, true, true, true, true, true, true, true] rfl rfl (any_of HT_.out (by kernel_rfl)) (fun _ _ _ h => h) (Or.inl ⟨by rfl, ?_⟩) ?_ ?_
                  rotate_left
                  ·intro w'
                   go_simp
                   with_reducible rfl
                  rotate_left
                  ·simp only [Act.put, zA, zB, zC, i64_w, i32_w]
                   rfl
                  refine done_ (done_of HT_.out (by kernel_rfl)) ?_
                  try go_wp2_with (first | ((with_reducible refine zS (f := 74) rfl ?_); refine goesL_ (some 62) rfl rfl Try.func74 (by kernel_rfl) rfl #[.slice (some ad632) x4_2.length co38, .int .i64 (rd (rd_L1 l0_2 (rd x4_2 x6_1)) x7_2)] rfl (by (try simp only [zI, zJ, zK]); first | done | rfl | (simp only [zL, zM]; rfl)) ?_; (with_reducible refine (spec_l4Has.calls k2 _ _ x4_2 (rd (rd_L1 l0_2 (rd x4_2 x6_1)) x7_2) true _ ?side1 ?side2 A35.out).mono ?_); (case side1 => exact mC ((zN HO_4.out).2.2)); (case side2 => exact (zN HO_4.out).2.1); rintro e w' ⟨rfl, ⟨nd, rfl⟩⟩; refine ⟨_, rfl, ?_⟩))
                  go_roundg k2
                  case measure => have := HK1.out; have := HK2.out; omega
                  case rel => exact ⟨(x4_2), (x5_2), (wrap64 (x7_2 + 1)), (by first | rfl | (simp; done) | (simp [*]; done)), H', ⟨by have := HK1.out; have := HK2.out; omega⟩, ⟨by (with_reducible repeat (first | apply yB | apply yC | apply yD)); exact HO_4.out⟩, ⟨by (with_reducible repeat (first | apply Kd.N_alloc | apply Kd.N_drewN | apply Kd.N_drew)); exact HO_5.out⟩, ⟨by (with_reducible repeat (first | refine yS ?_ _ | refine yT ?_ | refine yR ?_ _)); exact BK609.out⟩, ⟨by repeat (first | (with_reducible first | exact HB.out | apply yO | apply yN | apply yP | refine yQ ?_ GE609.out) | exact HB.out)⟩⟩
                 ·replace c36 := Bool.eq_false_iff.mpr c36
                  subst c36
                  have H1 : (if x6_1 < (x5_2.length : Int) then (if ((rd_L1 x5_2 x6_1).length : Int) < 16 then (if x4_2.length < 17592186044416 then ((some (([] : List Int) : List Int)).bind fun y642 => (if y642.length + (rd_L1 x5_2 x6_1).length < 17592186044416 then ((some (y642 ++ (rd_L1 x5_2 x6_1) : List Int)).bind fun y646 => (if y646.length < 17592186044416 then (if x5_2.length < 5864062014805 then (spec_LeastMember.l1 k2 (x4_2 ++ [rd (rd_L1 l0_2 (rd x4_2 x6_1)) x7_2]) (x5_2 ++ [(y646 ++ [x7_2])]) x6_1 (wrap64 (x7_2 + 1)) a0_0 a0_1 l0_2 l0_3) else (none)) else (none))) else (none))) else (none)) else (spec_LeastMember.l1 k2 x4_2 x5_2 x6_1 (wrap64 (x7_2 + 1)) a0_0 a0_1 l0_2 l0_3)) else (none)) = some (r1, r2) := by rw [if_neg (show ¬ (false = true) by decide)] at H; exact H
                  clear H
                  have H := H1
                  clear H1
                  by_cases c40 : x6_1 < (x5_2.length : Int)
                  ·rw [if_pos c40] at H
                   have c40b0 : decide (x6_1 < (x5_2.length : Int)) = true := zH c40
                   clear c40
                   by_cases c41 : ((rd_L1 x5_2 x6_1).length : Int) < 16
                   ·rw [if_pos c41] at H
                    have c41b0 : decide (((rd_L1 x5_2 x6_1).length : Int) < 16) = true := zH c41
                    have c41b1 : decide ((rd_L1 x5_2 x6_1).length < 16) = true := zH (by omega)
                    clear c41
                    by_cases c42 : x4_2.length < 17592186044416
                    ·rw [if_pos c42] at H
                     have LMc42 := yA c42
                     clear c42
                     obtain ⟨y639, hy639⟩ : ∃ y_ : List Int, y_ = (x4_2 ++ [rd (rd_L1 l0_2 (rd x4_2 x6_1)) x7_2]) := ⟨_, rfl⟩
                     replace H : ((some (([] : List Int) : List Int)).bind fun y642 => (if y642.length + (rd_L1 x5_2 x6_1).length < 17592186044416 then ((some (y642 ++ (rd_L1 x5_2 x6_1) : List Int)).bind fun y646 => (if y646.length < 17592186044416 then (if x5_2.length < 5864062014805 then (spec_LeastMember.l1 k2 y639 (x5_2 ++ [(y646 ++ [x7_2])]) x6_1 (wrap64 (x7_2 + 1)) a0_0 a0_1 l0_2 l0_3) else (none)) else (none))) else (none))) = some (r1, r2) := by first | (rw [hy639]; with_reducible exact H) | (have H2_ := (Option.bind_some _ _).symm.trans H; rw [hy639]; with_reducible exact H2_) | (have H2_ := (Option.bind_some _ _).symm.trans H; with_reducible exact H2_) | with_reducible exact H | (rw [hy639]; exact H) | exact H
                     have Ny639 := yA hy639
                     clear hy639
                     obtain ⟨y642, hy642⟩ : ∃ y_ : List Int, y_ = (([] : List Int)) := ⟨_, rfl⟩
                     replace H : (if y642.length + (rd_L1 x5_2 x6_1).length < 17592186044416 then ((some (y642 ++ (rd_L1 x5_2 x6_1) : List Int)).bind fun y646 => (if y646.length < 17592186044416 then (if x5_2.length < 5864062014805 then (spec_LeastMember.l1 k2 y639 (x5_2 ++ [(y646 ++ [x7_2])]) x6_1 (wrap64 (x7_2 + 1)) a0_0 a0_1 l0_2 l0_3) else (none)) else (none))) else (none)) = some (r1, r2) := by first | (rw [hy642]; with_reducible exact H) | (have H2_ := (Option.bind_some _ _).symm.trans H; rw [hy642]; with_reducible exact H2_) | (have H2_ := (Option.bind_some _ _).symm.trans H; with_reducible exact H2_) | with_reducible exact H | (rw [hy642]; exact H) | exact H
                     have Ny642 := yA hy642
                     clear hy642
                     by_cases c43 : y642.length + (rd_L1 x5_2 x6_1).length < 17592186044416
                     ·rw [if_pos c43] at H
                      have LMc43 := yA c43
                      clear c43
                      obtain ⟨y646, hy646⟩ : ∃ y_ : List Int, y_ = (y642 ++ (rd_L1 x5_2 x6_1)) := ⟨_, rfl⟩
                      replace H : (if y646.length < 17592186044416 then (if x5_2.length < 5864062014805 then (spec_LeastMember.l1 k2 y639 (x5_2 ++ [(y646 ++ [x7_2])]) x6_1 (wrap64 (x7_2 + 1)) a0_0 a0_1 l0_2 l0_3) else (none)) else (none)) = some (r1, r2) := by first | (rw [hy646]; with_reducible exact H) | (have H2_ := (Option.bind_some _ _).symm.trans H; rw [hy646]; with_reducible exact H2_) | (have H2_ := (Option.bind_some _ _).symm.trans H; with_reducible exact H2_) | with_reducible exact H | (rw [hy646]; exact H) | exact H
                      have Ny646 := yA hy646
                      clear hy646
                      by_cases c44 : y646.length < 17592186044416
                      ·rw [if_pos c44] at H
                       have LMc44 := yA c44
                       clear c44
                       obtain ⟨y649, hy649⟩ : ∃ y_ : List Int, y_ = (y646 ++ [x7_2]) := ⟨_, rfl⟩
                       replace H : (if x5_2.length < 5864062014805 then (spec_LeastMember.l1 k2 y639 (x5_2 ++ [y649]) x6_1 (wrap64 (x7_2 + 1)) a0_0 a0_1 l0_2 l0_3) else (none)) = some (r1, r2) := by first | (rw [hy649]; with_reducible exact H) | (have H2_ := (Option.bind_some _ _).symm.trans H; rw [hy649]; with_reducible exact H2_) | (have H2_ := (Option.bind_some _ _).symm.trans H; with_reducible exact H2_) | with_reducible exact H | (rw [hy649]; exact H) | exact H
                       have Ny649 := yA hy649
                       clear hy649
                       by_cases c45 : x5_2.length < 5864062014805
                       ·rw [if_pos c45] at H
                        have LMc45 := yA c45
                        clear c45
                        obtain ⟨y652, hy652⟩ : ∃ y_ : List (List Int), y_ = (x5_2 ++ [y649]) := ⟨_, rfl⟩
                        replace H : (spec_LeastMember.l1 k2 y639 y652 x6_1 (wrap64 (x7_2 + 1)) a0_0 a0_1 l0_2 l0_3) = some (r1, r2) := by first | (rw [hy652]; with_reducible exact H) | (have H2_ := (Option.bind_some _ _).symm.trans H; rw [hy652]; with_reducible exact H2_) | (have H2_ := (Option.bind_some _ _).symm.trans H; with_reducible exact H2_) | with_reducible exact H | (rw [hy652]; exact H) | exact H
                        have Ny652 := yA hy652
                        clear hy652
                        have H' := yA H
                        clear H
                        try go_wp2
                        have n0_ := yA (yD HO_4.out)
                        have n1_ := yA (Kd.N_drew HO_5.out)
                        have n2_ := yA (yT BK609.out)
                        have n3_ := yA (yP HB.out)
                        clear HO_4
                        clear HO_5
                        clear BK609
                        clear HB
                        have HO_4 := n0_
                        have HO_5 := n1_
                        have BK609 := n2_
                        have HB := n3_
                        clear n0_ n1_ n2_ n3_
                        obtain ⟨Ao47, co47, eo47⟩ := Kd.R_slice HO_4.out
                        (first | subst eo47 | (injection eo47 with f1_ f2_ f3_; have f4_ := f1_.symm; have f5_ := f3_.symm; clear f1_ f2_ f3_; subst f4_; subst f5_))
                        have p632 : 0 ≤ (x6_1 : Int) := zG (by first | (with_reducible assumption) | assumption)
                        have q632 : x6_1 < (x4_2.length : Int) := zG (by first | (with_reducible assumption) | assumption)
                        obtain ⟨ad632, e632, hx632_0⟩ := Kd.at_int (zN HO_4.out).2.2 x6_1 p632 q632
                        cases e632
                        replace p632 := eq_true p632
                        replace q632 := eq_true q632
                        have p633 : 0 ≤ ((rd x4_2 x6_1) : Int) := zG (by first | (with_reducible assumption) | assumption)
                        have q633 : (rd x4_2 x6_1) < (l0_2.length : Int) := zG (by first | (with_reducible assumption) | assumption)
                        obtain ⟨ad633, A633_0, c633_0, e633, hx633_0, hl633_0, hi633_0⟩ := at_L1 HR0_2.out (rd x4_2 x6_1) p633 q633
                        have hw633_0 := hx633_0
                        cases e633
                        try replace hx633_0 := (HB.out.cell (zE w _ hx633_0)).trans hx633_0
                        have HR633_0 := yA hi633_0
                        have HC633_0 := yA hl633_0
                        clear hi633_0 hl633_0
                        replace p633 := eq_true p633
                        replace q633 := eq_true q633
                        refine start_ (n := 11) (S := fun w' => w'.cell? ⟨gb609, 0, none⟩ = some (.int .i64 a0_0) ∧ w'.cell? ⟨gb609, 1, none⟩ = some (.int .i64 a0_1) ∧ w'.cell? ⟨gb609, 2, none⟩ = some (.slice (some ad633) l0_2.length c0_2) ∧ w'.cell? ⟨gb609, 3, none⟩ = some (.slice (some ad627) l0_3.length c0_3) ∧ w'.cell? (ad632.add (x6_1).toNat) = some (.int .i64 (rd x4_2 x6_1)) ∧ w'.cell? (ad633.add ((rd x4_2 x6_1)).toNat) = some (.slice A633_0 (rd_L1 l0_2 (rd x4_2 x6_1)).length c633_0)) (ds := []) #[false, false, false, false, false, false, false, false, false, false, false] (by kernel_rfl) rfl rfl ⟨(yV BK609.out 0).trans rfl, (yV BK609.out 1).trans rfl, (yV BK609.out 2).trans rfl, (yV BK609.out 3).trans rfl, hx632_0, ((HB.out.cell (zE w _ hw633_0)).trans hw633_0)⟩ (fun hHeld => ?_); refine with_tabW spec_LeastMember.tab11 spec_LeastMember.bits11 (fun HT_ HW_ => ?_)
                        generalize wr.drew = w46 at HO_4 HO_5 BK609 HB HR633_0 hx632_0 hx633_0 hHeld ⊢
                        refine pure_ (i := 0) (N := some 36) (v := ?_) (a' := ?_) #[true, false, false, false, false, false, false, false, false, false, false] rfl rfl (any_of HT_.out (by kernel_rfl)) (fun _ _ _ h => h) (Or.inl ⟨by rfl, ?_⟩) ?_ ?_
                        rotate_left
                        ·intro w'
                         go_simp
                         with_reducible rfl
                        rotate_left
                        ·simp only [Act.put, zA, zB, zC, i64_w, i32_w]
                         rfl
                        refine pure_ (i := 1) (N := some 37) (v := ?_) (a' := ?_) #[true, true, false, false, false, false, false, false, false, false, false] rfl rfl (any_of HT_.out (by kernel_rfl)) (fun _ _ _ h => h) (Or.inl ⟨by rfl, ?_⟩) ?_ ?_
                        rotate_left
                        ·intro w'
                         go_simp
                         with_reducible rfl
                        rotate_left
                        ·simp only [Act.put, zA, zB, zC, i64_w, i32_w]
                         rfl
                        refine pure_ (i := 3) (N := some 39) (v := ?_) (a' := ?_) #[true, true, false, true, false, false, false, false, false, false, false] rfl rfl (any_of HT_.out (by kernel_rfl)) (fun _ _ _ h => h) (Or.inl ⟨by rfl, ?_⟩) ?_ ?_
                        rotate_left
                        ·intro w'
                         go_simp
                         with_reducible rfl
                        rotate_left
                        ·simp only [Act.put, zA, zB, zC, i64_w, i32_w]
                         rfl
                        refine pure_ (i := 4) (N := some 40) (v := ?_) (a' := ?_) #[true, true, false, true, true, false, false, false, false, false, false] rfl rfl (any_of HT_.out (by kernel_rfl)) (fun _ _ _ h => h) (Or.inl ⟨by rfl, ?_⟩) ?_ ?_
                        rotate_left
                        ·intro w'
                         go_simp
                         with_reducible rfl
                        rotate_left
                        ·simp only [Act.put, zA, zB, zC, i64_w, i32_w]
                         rfl
                        refine pure_ (i := 5) (N := some 41) (v := ?_) (a' := ?_) #[true, true, false, true, true, true, false, false, false, false, false] rfl rfl (any_of HT_.out (by kernel_rfl)) (fun _ _ _ h => h) (Or.inl ⟨by rfl, ?_⟩) ?_ ?_
                        rotate_left
                        ·intro w'
                         go_simp
                         with_reducible rfl
                        rotate_left
                        ·simp only [Act.put, zA, zB, zC, i64_w, i32_w]
                         rfl
                        refine take_ (i := 2) (N := some 38) (v := ?_) (a' := ?_) #[true, true, true, true, true, true, false, false, false, false, false] rfl rfl (take_ofW HT_.out HW_.out (by kernel_rfl)) (fun _ _ _ h => h) (Or.inl ⟨by rfl, ?_⟩) hHeld ?_ ?_
                        rotate_left
                        ·rintro w' ⟨s0, s1, s2, s3, s4, s5⟩
                         go_simp
                         with_reducible rfl
                        rotate_left
                        ·simp only [Act.put, zA, zB, zC, i64_w, i32_w]
                         rfl
                        refine take_ (i := 6) (N := some 42) (v := ?_) (a' := ?_) #[true, true, true, true, true, true, true, false, false, false, false] rfl rfl (take_ofW HT_.out HW_.out (by kernel_rfl)) (fun _ _ _ h => h) (Or.inl ⟨by rfl, ?_⟩) hHeld ?_ ?_
                        rotate_left
                        ·rintro w' ⟨s0, s1, s2, s3, s4, s5⟩
                         go_simp
                         with_reducible rfl
                        rotate_left
                        ·simp only [Act.put, zA, zB, zC, i64_w, i32_w]
                         rfl
                        refine pure_ (i := 7) (N := some 43) (v := ?_) (a' := ?_) #[true, true, true, true, true, true, true, true, false, false, false] rfl rfl (any_of HT_.out (by kernel_rfl)) (fun _ _ _ h => h) (Or.inl ⟨by rfl, ?_⟩) ?_ ?_
                        rotate_left
                        ·intro w'
                         go_simp
                         with_reducible rfl
                        rotate_left
                        ·simp only [Act.put, zA, zB, zC, i64_w, i32_w]
                         rfl
                        refine take_ (i := 8) (N := some 44) (v := ?_) (a' := ?_) #[true, true, true, true, true, true, true, true, true, false, false] rfl rfl (take_ofW HT_.out HW_.out (by kernel_rfl)) (fun _ _ _ h => h) (Or.inl ⟨by rfl, ?_⟩) hHeld ?_ ?_
                        rotate_left
                        ·rintro w' ⟨s0, s1, s2, s3, s4, s5⟩
                         go_simp
                         with_reducible rfl
                        rotate_left
                        ·simp only [Act.put, zA, zB, zC, i64_w, i32_w]
                         rfl
                        refine pure_ (i := 9) (N := some 45) (v := ?_) (a' := ?_) #[true, true, true, true, true, true, true, true, true, true, false] rfl rfl (any_of HT_.out (by kernel_rfl)) (fun _ _ _ h => h) (Or.inl ⟨by rfl, ?_⟩) ?_ ?_
                        rotate_left
                        ·intro w'
                         go_simp
                         with_reducible rfl
                        rotate_left
                        ·simp only [Act.put, zA, zB, zC, i64_w, i32_w]
                         rfl
                        refine pure_ (i := 10) (N := some 46) (v := ?_) (a' := ?_) #[true, true, true, true, true, true, true, true, true, true, true] rfl rfl (any_of HT_.out (by kernel_rfl)) (fun _ _ _ h => h) (Or.inl ⟨by rfl, ?_⟩) ?_ ?_
                        rotate_left
                        ·intro w'
                         go_simp
                         with_reducible rfl
                        rotate_left
                        ·simp only [Act.put, zA, zB, zC, i64_w, i32_w]
                         rfl
                        refine done_ (done_of HT_.out (by kernel_rfl)) ?_
                        try go_wp2
                        have n0_ := yA (yD HO_4.out)
                        have n1_ := yA (Kd.N_drew HO_5.out)
                        have n2_ := yA (yT BK609.out)
                        have n3_ := yA (yP HB.out)
                        clear HO_4
                        clear HO_5
                        clear BK609
                        clear HB
                        have HO_4 := n0_
                        have HO_5 := n1_
                        have BK609 := n2_
                        have HB := n3_
                        clear n0_ n1_ n2_ n3_
                        have p634 : 0 ≤ (x6_1 : Int) := zG (by first | (with_reducible assumption) | assumption)
                        have q634 : x6_1 < (x4_2.length : Int) := zG (by first | (with_reducible assumption) | assumption)
                        obtain ⟨ad634, e634, hx634_0⟩ := Kd.at_int (zN HO_4.out).2.2 x6_1 p634 q634
                        obtain rfl : ad632 = ad634 := (by injection e634)
                        replace p634 := eq_true p634
                        replace q634 := eq_true q634
                        have p635 : 0 ≤ ((rd x4_2 x6_1) : Int) := zG (by first | (with_reducible assumption) | assumption)
                        have q635 : (rd x4_2 x6_1) < (l0_2.length : Int) := zG (by first | (with_reducible assumption) | assumption)
                        obtain ⟨ad635, A635_0, c635_0, e635, hx635_0, hl635_0, hi635_0⟩ := at_L1 HR0_2.out (rd x4_2 x6_1) p635 q635
                        have hw635_0 := hx635_0
                        obtain rfl : ad633 = ad635 := (by injection e635)
                        try replace hx635_0 := (HB.out.cell (zE w _ hx635_0)).trans hx635_0
                        have HR635_0 := yA hi635_0
                        have HC635_0 := yA hl635_0
                        clear hi635_0 hl635_0
                        replace p635 := eq_true p635
                        replace q635 := eq_true q635
                        have p636 : 0 ≤ (x7_2 : Int) := zG (by first | (with_reducible assumption) | assumption)
                        have q636 : x7_2 < ((rd_L1 l0_2 (rd x4_2 x6_1)).length : Int) := zG (by first | (with_reducible assumption) | assumption)
                        obtain ⟨ad636, e636, hx636_0⟩ := Kd.at_int HR635_0.out x7_2 p636 q636
                        have hw636_0 := hx636_0
                        cases e636
                        try replace hx636_0 := (HB.out.cell (zE w _ hx636_0)).trans hx636_0
                        replace p636 := eq_true p636
                        replace q636 := eq_true q636
                        refine start_ (n := 12) (S := fun w' => w'.cell? ⟨gb609, 0, none⟩ = some (.int .i64 a0_0) ∧ w'.cell? ⟨gb609, 1, none⟩ = some (.int .i64 a0_1) ∧ w'.cell? ⟨gb609, 2, none⟩ = some (.slice (some ad633) l0_2.length c0_2) ∧ w'.cell? ⟨gb609, 3, none⟩ = some (.slice (some ad627) l0_3.length c0_3) ∧ w'.cell? (ad632.add (x6_1).toNat) = some (.int .i64 (rd x4_2 x6_1)) ∧ w'.cell? (ad633.add ((rd x4_2 x6_1)).toNat) = some (.slice (some ad636) (rd_L1 l0_2 (rd x4_2 x6_1)).length c635_0) ∧ w'.cell? (ad636.add (x7_2).toNat) = some (.int .i64 (rd (rd_L1 l0_2 (rd x4_2 x6_1)) x7_2))) (ds := []) #[false, false, false, false, false, false, false, false, false, false, false, false] (by kernel_rfl) rfl rfl ⟨(yV BK609.out 0).trans rfl, (yV BK609.out 1).trans rfl, (yV BK609.out 2).trans rfl, (yV BK609.out 3).trans rfl, hx634_0, ((HB.out.cell (zE w _ hw635_0)).trans hw635_0), ((HB.out.cell (zE w _ hw636_0)).trans hw636_0)⟩ (fun hHeld => ?_); refine with_tabW spec_LeastMember.tab13 spec_LeastMember.bits13 (fun HT_ HW_ => ?_)
                        generalize w46.drew = w48 at HO_4 HO_5 BK609 HB HR635_0 hx634_0 hx635_0 hx636_0 hHeld ⊢
                        refine pure_ (i := 0) (N := some 49) (v := ?_) (a' := ?_) #[true, false, false, false, false, false, false, false, false, false, false, false] rfl rfl (any_of HT_.out (by kernel_rfl)) (fun _ _ _ h => h) (Or.inl ⟨by rfl, ?_⟩) ?_ ?_
                        rotate_left
                        ·intro w'
                         go_simp
                         with_reducible rfl
                        rotate_left
                        ·simp only [Act.put, zA, zB, zC, i64_w, i32_w]
                         rfl
                        refine pure_ (i := 2) (N := some 51) (v := ?_) (a' := ?_) #[true, false, true, false, false, false, false, false, false, false, false, false] rfl rfl (any_of HT_.out (by kernel_rfl)) (fun _ _ _ h => h) (Or.inl ⟨by rfl, ?_⟩) ?_ ?_
                        rotate_left
                        ·intro w'
                         go_simp
                         with_reducible rfl
                        rotate_left
                        ·simp only [Act.put, zA, zB, zC, i64_w, i32_w]
                         rfl
                        refine pure_ (i := 3) (N := some 52) (v := ?_) (a' := ?_) #[true, false, true, true, false, false, false, false, false, false, false, false] rfl rfl (any_of HT_.out (by kernel_rfl)) (fun _ _ _ h => h) (Or.inl ⟨by rfl, ?_⟩) ?_ ?_
                        rotate_left
                        ·intro w'
                         go_simp
                         with_reducible rfl
                        rotate_left
                        ·simp only [Act.put, zA, zB, zC, i64_w, i32_w]
                         rfl
                        refine pure_ (i := 4) (N := some 53) (v := ?_) (a' := ?_) #[true, false, true, true, true, false, false, false, false, false, false, false] rfl rfl (any_of HT_.out (by kernel_rfl)) (fun _ _ _ h => h) (Or.inl ⟨by rfl, ?_⟩) ?_ ?_
                        rotate_left
                        ·intro w'
                         go_simp
                         with_reducible rfl
                        rotate_left
                        ·simp only [Act.put, zA, zB, zC, i64_w, i32_w]
                         rfl
                        refine pure_ (i := 8) (N := some 57) (v := ?_) (a' := ?_) #[true, false, true, true, true, false, false, false, true, false, false, false] rfl rfl (any_of HT_.out (by kernel_rfl)) (fun _ _ _ h => h) (Or.inl ⟨by rfl, ?_⟩) ?_ ?_
                        rotate_left
                        ·intro w'
                         go_simp
                         with_reducible rfl
                        rotate_left
                        ·simp only [Act.put, zA, zB, zC, i64_w, i32_w]
                         rfl
                        refine take_ (i := 1) (N := some 50) (v := ?_) (a' := ?_) #[true, true, true, true, true, false, false, false, true, false, false, false] rfl rfl (take_ofW HT_.out HW_.out (by kernel_rfl)) (fun _ _ _ h => h) (Or.inl ⟨by rfl, ?_⟩) hHeld ?_ ?_
                        rotate_left
                        ·rintro w' ⟨s0, s1, s2, s3, s4, s5, s6⟩
                         go_simp
                         with_reducible rfl
                        rotate_left
                        ·simp only [Act.put, zA, zB, zC, i64_w, i32_w]
                         rfl
                        refine take_ (i := 5) (N := some 54) (v := ?_) (a' := ?_) #[true, true, true, true, true, true, false, false, true, false, false, false] rfl rfl (take_ofW HT_.out HW_.out (by kernel_rfl)) (fun _ _ _ h => h) (Or.inl ⟨by rfl, ?_⟩) hHeld ?_ ?_
                        rotate_left
                        ·rintro w' ⟨s0, s1, s2, s3, s4, s5, s6⟩
                         go_simp
                         with_reducible rfl
                        rotate_left
                        ·simp only [Act.put, zA, zB, zC, i64_w, i32_w]
                         rfl
                        refine pure_ (i := 6) (N := some 55) (v := ?_) (a' := ?_) #[true, true, true, true, true, true, true, false, true, false, false, false] rfl rfl (any_of HT_.out (by kernel_rfl)) (fun _ _ _ h => h) (Or.inl ⟨by rfl, ?_⟩) ?_ ?_
                        rotate_left
                        ·intro w'
                         go_simp
                         with_reducible rfl
                        rotate_left
                        ·simp only [Act.put, zA, zB, zC, i64_w, i32_w]
                         rfl
                        refine take_ (i := 7) (N := some 56) (v := ?_) (a' := ?_) #[true, true, true, true, true, true, true, true, true, false, false, false] rfl rfl (take_ofW HT_.out HW_.out (by kernel_rfl)) (fun _ _ _ h => h) (Or.inl ⟨by rfl, ?_⟩) hHeld ?_ ?_
                        rotate_left
                        ·rintro w' ⟨s0, s1, s2, s3, s4, s5, s6⟩
                         go_simp
                         with_reducible rfl
                        rotate_left
                        ·simp only [Act.put, zA, zB, zC, i64_w, i32_w]
                         rfl
                        refine pure_ (i := 9) (N := some 58) (v := ?_) (a' := ?_) #[true, true, true, true, true, true, true, true, true, true, false, false] rfl rfl (any_of HT_.out (by kernel_rfl)) (fun _ _ _ h => h) (Or.inl ⟨by rfl, ?_⟩) ?_ ?_
                        rotate_left
                        ·intro w'
                         go_simp
                         with_reducible rfl
                        rotate_left
                        ·simp only [Act.put, zA, zB, zC, i64_w, i32_w]
                         rfl
                        refine take_ (i := 10) (N := some 59) (v := ?_) (a' := ?_) #[true, true, true, true, true, true, true, true, true, true, true, false] rfl rfl (take_ofW HT_.out HW_.out (by kernel_rfl)) (fun _ _ _ h => h) (Or.inl ⟨by rfl, ?_⟩) hHeld ?_ ?_
                        rotate_left
                        ·rintro w' ⟨s0, s1, s2, s3, s4, s5, s6⟩
                         go_simp
                         with_reducible rfl
                        rotate_left
                        ·simp only [Act.put, zA, zB, zC, i64_w, i32_w]
                         rfl
                        refine pure_ (i := 11) (N := some 8) (v := ?_) (a' := ?_) #[true, true, true, true, true, true, true, true, true, true, true, true] rfl rfl (any_of HT_.out (by kernel_rfl)) (fun _ _ _ h => h) (Or.inl ⟨by rfl, ?_⟩) ?_ ?_
                        rotate_left
                        ·intro w'
                         go_simp
                         with_reducible rfl
                        rotate_left
                        ·simp only [Act.put, zA, zB, zC, i64_w, i32_w]
                         rfl
                        refine done_ (done_of HT_.out (by kernel_rfl)) ?_
                        try go_wp2_with (first | ((with_reducible refine zS (f := 74) rfl ?_); refine goesL_ (some 62) rfl rfl Try.func74 (by kernel_rfl) rfl #[.slice (some ad632) x4_2.length co47, .int .i64 (rd (rd_L1 l0_2 (rd x4_2 x6_1)) x7_2)] rfl (by (try simp only [zI, zJ, zK]); first | done | rfl | (simp only [zL, zM]; rfl)) ?_; (with_reducible refine (spec_l4Has.calls k2 _ _ x4_2 (rd (rd_L1 l0_2 (rd x4_2 x6_1)) x7_2) false _ ?side1 ?side2 A35.out).mono ?_); (case side1 => exact mC ((zN HO_4.out).2.2)); (case side2 => exact (zN HO_4.out).2.1); rintro e w' ⟨rfl, ⟨nd, rfl⟩⟩; refine ⟨_, rfl, ?_⟩; obtain ⟨Ao49, co49, eo49⟩ := Kd.N_slice HO_5.out; subst eo49; have p638 : 0 ≤ (x6_1 : Int) := zG (by first | (with_reducible assumption) | assumption); have q638 : x6_1 < (x5_2.length : Int) := zG (by first | (with_reducible assumption) | assumption); obtain ⟨ad638, A638_0, c638_0, e638, hx638_0, hl638_0, hi638_0⟩ := at_L1 (Kd.N_reads' HO_5.out).2.2 x6_1 p638 q638; cases e638; obtain ⟨ce638, hce638, hMe638, hcc638⟩ := Kd.N_get HO_5.out [] x6_1 p638 (by first | exact q638 | exact zG (by first | (with_reducible assumption) | assumption) | (have e_ := (Kd.N_reads' HO_5.out).1; omega)); obtain ⟨ua638_0, uc638_0, rfl, ul638_0, ge638_0⟩ := Kd.FK_slice_open hMe638; have hv638_0 := hcc638 0 _ rfl; rw [Nat.add_zero, show ((Kd.slice 3 (Kd.int .i64))).sz = 1 from rfl, Nat.mul_one] at hv638_0; replace hv638_0 := zU (hv638_0.symm.trans hx638_0); injection hv638_0 with hva_ hvn_ hvc_; rw [hva_] at ge638_0; rw [hvc_] at ul638_0; have HL638_0 := yA (show Kd.V (Kd.int .i64) 3 _ w.heap.size _ _ (rd_L1 x5_2 x6_1) from Kd.V_mk ul638_0 ge638_0); clear hva_ hvn_ hvc_ ge638_0 ul638_0; clear hcc638 hce638; have HR638_0 := yA hi638_0; have HC638_0 := yA hl638_0; clear hi638_0 hl638_0; replace p638 := eq_true p638; replace q638 := eq_true q638) | ((with_reducible refine gate_builtin (b := .append) (xs := #[.tmp 72, .tmp 74]) rfl ?_); at_builtin; refine Kd.R_append (Kd.int .i64) (w0 := w) w.heap.size rfl (.tmp 72) (.tmp 74) 38 3 (.int .i64 0) 8 rfl Try.underlying38 info3 rfl (by decide) (by omega) (.slice (some ad632) x4_2.length co47) x4_2 (rd (rd_L1 l0_2 (rd x4_2 x6_1)) x7_2) [.int .i64 (rd (rd_L1 l0_2 (rd x4_2 x6_1)) x7_2)] (fun _ => True) (fun _ => False) rfl rfl ?aP (fun _ hk => hk.elim) ?aF ?aO ?aB ?aS ?aL ?_; (case aP => exact rfl); (case aB => exact (by with_reducible repeat first | exact HB.out | apply yO | apply yN | apply yP | refine yQ ?_ GE609.out)); (case aF => exact (fun _ _ => trivial)); (case aO => exact (mR HO_4.out)); (case aS => exact (yX (by with_reducible repeat first | exact HB.out | apply yO | apply yN | apply yP | refine yQ ?_ GE609.out))); (case aL => have := LMc42.out; omega); intro v640 w50 ho hb hg hat; rw [← Ny639.out] at ho; have n0_ := yA (Kd.N_afterv (ok := (fun k_ => k_ ≠ gb609)) (by (with_reducible repeat (first | apply Kd.N_alloc | apply Kd.N_drewN | apply Kd.N_drew)); exact Kd.N_mono HO_5.out (fun _ hk => ⟨hk.2, hk.1⟩)) hg hat); have n1_ := yA (blk_grown (g := gb609) (o := .cells #[.int .i64 a0_0, .int .i64 a0_1, .slice (some ad633) l0_2.length c0_2, .slice (some ad627) l0_3.length c0_3] 25 (0, 0)) (mK BK609.out) hg (zW HO_4.out BK609.out (by decide))); have n2_ := yA (Kd.V_afterv (ok := (fun k_ => some k_ ≠ (.slice (some ad638) x5_2.length co49 : Value).ownBlock ∧ k_ ≠ gb609)) (by (with_reducible repeat (first | apply Kd.V_alloc | apply Kd.V_drewN | apply Kd.V_drew)); exact Kd.V_mono HL638_0.out (fun _ hk => ⟨⟨hk.2, hk.1.2⟩, hk.1.1⟩)) hg hat); have n3_ := yA (hb); have n4_ := yA (ho); clear HO_5; clear BK609; clear HL638_0; clear HB; clear HO_4; have HO_5 := n0_; have BK609 := n1_; have HL638_0 := n2_; have HB := n3_; have HO641 := n4_; clear n0_ n1_ n2_ n3_ n4_; clear ho hb hg hat) | ((with_reducible refine gate_dst (N := 77) rfl ?_); refine Kd.R_lit (Kd.int .i64) _ 3 ?hg (N := 77) ?hd (xs := ([] : List Int)) (inner := []) (ok := fun _ => True) (okp := fun _ => True) ?hr ?hp (fun _ hk => hk) trivial (zV _ _) (zT _) (by simp) ?_; (case hd => rfl); (case hg => rfl); (case hr => first | (go_simp; done) | (go_simp; rfl)); (case hp => exact (Reps.none _ _)); intro v643 w51 ho52 hb hg_ hnew_; clear hg_ hnew_; (first | rw [← Ny642.out] at ho52 | (simp only [Int.reduceToNat] at ho52; rw [← Ny642.out] at ho52)); have n0_ := yA (Kd.N_elder' (by (with_reducible repeat (first | apply Kd.N_alloc | apply Kd.N_drewN | apply Kd.N_drew)); exact HO_5.out) (yY ho52) hb); have n1_ := yA (Kd.V_elder' (by (with_reducible repeat (first | apply Kd.V_alloc | apply Kd.V_drewN | apply Kd.V_drew)); exact HL638_0.out) (yY ho52) hb); have n2_ := yA (zO (mR HO641.out) (yY ho52) hb); have n3_ := yA (Kd.R_lower (Kd.R_new' ho52 (yZ (mR HO641.out))) (yX (by with_reducible repeat first | exact HB.out | apply yO | apply yN | apply yP | refine yQ ?_ GE609.out))); have n4_ := yA (yU (mK BK609.out) hb); have n5_ := yA (zD (by with_reducible repeat first | exact HB.out | apply yO | apply yN | apply yP | refine yQ ?_ GE609.out) hb); clear HO_5; clear HL638_0; clear HO641; clear BK609; clear HB; have HO_5 := n0_; have HL638_0 := n1_; have HO641 := n2_; have HO644 := n3_; have BK609 := n4_; have HB := n5_; clear n0_ n1_ n2_ n3_ n4_ n5_; clear hb ho52; have p645 : 0 ≤ (x6_1 : Int) := zG (by first | (with_reducible assumption) | assumption); have q645 : x6_1 < (x5_2.length : Int) := zG (by first | (with_reducible assumption) | assumption); obtain ⟨ad645, A645_0, c645_0, e645, hx645_0, hl645_0, hi645_0⟩ := at_L1 (Kd.N_reads' HO_5.out).2.2 x6_1 p645 q645; obtain rfl : ad638 = ad645 := (by injection e645); obtain ⟨ce645, hce645, hMe645, hcc645⟩ := Kd.N_get HO_5.out [] x6_1 p645 (by first | exact q645 | exact zG (by first | (with_reducible assumption) | assumption) | (have e_ := (Kd.N_reads' HO_5.out).1; omega)); obtain ⟨ua645_0, uc645_0, rfl, ul645_0, ge645_0⟩ := Kd.FK_slice_open hMe645; have hv645_0 := hcc645 0 _ rfl; rw [Nat.add_zero, show ((Kd.slice 3 (Kd.int .i64))).sz = 1 from rfl, Nat.mul_one] at hv645_0; replace hv645_0 := zU (hv645_0.symm.trans hx645_0); injection hv645_0 with hva_ hvn_ hvc_; rw [hva_] at ge645_0; rw [hvc_] at ul645_0; have HL645_0 := yA (show Kd.V (Kd.int .i64) 3 _ w.heap.size _ _ (rd_L1 x5_2 x6_1) from Kd.V_mk ul645_0 ge645_0); clear hva_ hvn_ hvc_ ge645_0 ul645_0; clear hcc645 hce645; have HR645_0 := yA hi645_0; have HC645_0 := yA hl645_0; clear hi645_0 hl645_0; replace p645 := eq_true p645; replace q645 := eq_true q645) | ((with_reducible refine gate_builtin (b := .append) (xs := #[.tmp 77, .tmp 81]) rfl ?_); at_builtin; refine Kd.R_append_rows (Kd.int .i64) (w0 := w) w.heap.size rfl (.tmp 77) (.tmp 81) 38 3 (.int .i64 0) 8 rfl Try.underlying38 info3 rfl (by decide) (by omega) v643 y642 (rd_L1 x5_2 x6_1) _ _ _ (fun k_ => some k_ ≠ (v640 : Value).ownBlock) (fun _ => False) rfl rfl ?aO ?aR (fun _ _ h => h) (fun _ h => h.elim) ?aF ?aB ?aS ?aL ?_; (case aR => repeat (first | exact (by repeat (first | (with_reducible exact HR645_0.out) | (with_reducible refine yE ?_ _) | (with_reducible refine yF ?_ _) | (with_reducible refine yG ?_) | exact HR645_0.out)) | (with_reducible refine yE ?_ _) | (with_reducible refine yF ?_ _) | (with_reducible refine yG ?_))); (case aB => exact (by with_reducible repeat first | exact HB.out | apply yO | apply yN | apply yP | refine yQ ?_ GE609.out)); (case aF => exact (fun k_ hk => Kd.fresh' (yZ (mR HO641.out)) k_ hk)); (case aO => exact (mR (zP HO644.out (fun _ hk => hk.2)))); (case aS => exact (yX (by with_reducible repeat first | exact HB.out | apply yO | apply yN | apply yP | refine yQ ?_ GE609.out))); (case aL => have := LMc43.out; omega); intro v647 w53 ho hb hg hat; rw [← Ny646.out] at ho; have n0_ := yA (Kd.N_afterv (ok := (fun k_ => some k_ ≠ (v640 : Value).ownBlock ∧ k_ ≠ gb609)) (by (with_reducible repeat (first | apply Kd.N_alloc | apply Kd.N_drewN | apply Kd.N_drew)); exact Kd.N_mono HO_5.out (fun _ hk => ⟨⟨hk.1.2, hk.1.1⟩, hk.2⟩)) hg hat); have n1_ := yA (blk_grown (g := gb609) (o := .cells #[.int .i64 a0_0, .int .i64 a0_1, .slice (some ad633) l0_2.length c0_2, .slice (some ad627) l0_3.length c0_3] 25 (0, 0)) (mK BK609.out) hg (zW HO644.out BK609.out (by decide))); have n2_ := yA (Kd.V_afterv (ok := (fun k_ => some k_ ≠ (.slice (some ad638) x5_2.length co49 : Value).ownBlock ∧ some k_ ≠ (v640 : Value).ownBlock ∧ k_ ≠ gb609)) (by (with_reducible repeat (first | apply Kd.V_alloc | apply Kd.V_drewN | apply Kd.V_drew)); exact Kd.V_mono HL638_0.out (fun _ hk => ⟨⟨hk.1.1.1, ⟨hk.1.2, hk.1.1.2⟩⟩, hk.2⟩)) hg hat); have n3_ := yA (Kd.R_after (ok := (fun _ => True)) (mR HO641.out) hg hat); have n4_ := yA (Kd.V_afterv (ok := (fun k_ => some k_ ≠ (.slice (some ad638) x5_2.length co49 : Value).ownBlock ∧ some k_ ≠ (v640 : Value).ownBlock ∧ k_ ≠ gb609)) (by (with_reducible repeat (first | apply Kd.V_alloc | apply Kd.V_drewN | apply Kd.V_drew)); exact Kd.V_mono HL645_0.out (fun _ hk => ⟨⟨hk.2, ⟨hk.1.1.2, hk.1.1.1⟩⟩, hk.1.2⟩)) hg hat); have n5_ := yA (hb); have n6_ := yA (ho); clear HO_5; clear BK609; clear HL638_0; clear HO641; clear HL645_0; clear HB; clear HO644; have HO_5 := n0_; have BK609 := n1_; have HL638_0 := n2_; have HO641 := n3_; have HL645_0 := n4_; have HB := n5_; have HO648 := n6_; clear n0_ n1_ n2_ n3_ n4_ n5_ n6_; clear ho hb hg hat) | ((with_reducible refine gate_builtin (b := .append) (xs := #[.tmp 82, .tmp 84]) rfl ?_); at_builtin; refine Kd.R_append (Kd.int .i64) (w0 := w) w.heap.size rfl (.tmp 82) (.tmp 84) 38 3 (.int .i64 0) 8 rfl Try.underlying38 info3 rfl (by decide) (by omega) v647 y646 x7_2 [.int .i64 x7_2] (fun k_ => some k_ ≠ (v640 : Value).ownBlock) (fun _ => False) rfl rfl ?aP (fun _ hk => hk.elim) ?aF ?aO ?aB ?aS ?aL ?_; (case aP => exact rfl); (case aB => exact (by with_reducible repeat first | exact HB.out | apply yO | apply yN | apply yP | refine yQ ?_ GE609.out)); (case aF => exact (fun k_ hk => Kd.fresh' (yZ (mR HO641.out)) k_ hk)); (case aO => exact (mR HO648.out)); (case aS => exact (yX (by with_reducible repeat first | exact HB.out | apply yO | apply yN | apply yP | refine yQ ?_ GE609.out))); (case aL => have := LMc44.out; omega); intro v650 w54 ho hb hg hat; rw [← Ny649.out] at ho; have n0_ := yA (Kd.N_afterv (ok := (fun k_ => some k_ ≠ (v640 : Value).ownBlock ∧ k_ ≠ gb609)) (by (with_reducible repeat (first | apply Kd.N_alloc | apply Kd.N_drewN | apply Kd.N_drew)); exact HO_5.out) hg hat); have n1_ := yA (blk_grown (g := gb609) (o := .cells #[.int .i64 a0_0, .int .i64 a0_1, .slice (some ad633) l0_2.length c0_2, .slice (some ad627) l0_3.length c0_3] 25 (0, 0)) (mK BK609.out) hg (zW HO648.out BK609.out (by decide))); have n2_ := yA (Kd.V_afterv (ok := (fun k_ => some k_ ≠ (.slice (some ad638) x5_2.length co49 : Value).ownBlock ∧ some k_ ≠ (v640 : Value).ownBlock ∧ k_ ≠ gb609)) (by (with_reducible repeat (first | apply Kd.V_alloc | apply Kd.V_drewN | apply Kd.V_drew)); exact HL638_0.out) hg hat); have n3_ := yA (Kd.R_after (ok := (fun _ => True)) (mR HO641.out) hg hat); have n4_ := yA (Kd.V_afterv (ok := (fun k_ => some k_ ≠ (.slice (some ad638) x5_2.length co49 : Value).ownBlock ∧ some k_ ≠ (v640 : Value).ownBlock ∧ k_ ≠ gb609)) (by (with_reducible repeat (first | apply Kd.V_alloc | apply Kd.V_drewN | apply Kd.V_drew)); exact HL645_0.out) hg hat); have n5_ := yA (hb); have n6_ := yA (ho); clear HO_5; clear BK609; clear HL638_0; clear HO641; clear HL645_0; clear HB; clear HO648; have HO_5 := n0_; have BK609 := n1_; have HL638_0 := n2_; have HO641 := n3_; have HL645_0 := n4_; have HB := n5_; have HO651 := n6_; clear n0_ n1_ n2_ n3_ n4_ n5_ n6_; clear ho hb hg hat; obtain ⟨Ao56, co56, eo56⟩ := Kd.R_slice HO651.out; subst eo56) | ((with_reducible refine gate_builtin (b := .append) (xs := #[.tmp 76, .tmp 86]) rfl ?_); at_builtin; refine Kd.N_append (Kd.slice 3 (Kd.int .i64)) (w0 := w) w.heap.size rfl (.tmp 76) (.tmp 86) 22 38 (.slice none 0 0) 24 rfl Try.underlying22 info38 rfl (by decide) (by omega) (.slice (some ad638) x5_2.length co49) x5_2 y649 [.slice Ao56 y649.length co56] (fun k_ => some k_ ≠ (v640 : Value).ownBlock ∧ k_ ≠ gb609) (fun k_ => ((fun k_ => some k_ ≠ (v640 : Value).ownBlock ∧ k_ ≠ gb609)) k_ ∧ some k_ ≠ (.slice (some ad638) x5_2.length co49 : Value).ownBlock) rfl rfl ?aP (fun _ hk => hk) ?aF ?aO ?aB ?aS ?aL ?_; (case aP => exact (Kd.FK_slice_mk (zN (zP (ok' := (fun k_ => ((fun k_ => some k_ ≠ (v640 : Value).ownBlock ∧ k_ ≠ gb609)) k_ ∧ some k_ ≠ (.slice (some ad638) x5_2.length co49 : Value).ownBlock)) (zR (Kd.R_apart' (HO651.out) (Kd.N_typed HO_5.out) (by decide)) BK609.out (by decide)) (fun k_ hk => ⟨⟨hk.1.1, hk.2⟩, hk.1.2⟩))).2.1 (Kd.R_F (zP (ok' := (fun k_ => ((fun k_ => some k_ ≠ (v640 : Value).ownBlock ∧ k_ ≠ gb609)) k_ ∧ some k_ ≠ (.slice (some ad638) x5_2.length co49 : Value).ownBlock)) (zR (Kd.R_apart' (HO651.out) (Kd.N_typed HO_5.out) (by decide)) BK609.out (by decide)) (fun k_ hk => ⟨⟨hk.1.1, hk.2⟩, hk.1.2⟩))))); (case aB => exact (by with_reducible repeat first | exact HB.out | apply yO | apply yN | apply yP | refine yQ ?_ GE609.out)); (case aF => exact (fun k_ hk => ⟨Kd.fresh' (yZ (mR HO641.out)) k_ hk, Kd.freshB (g := gb609) (o := .cells #[.int .i64 a0_0, .int .i64 a0_1, .slice (some ad633) l0_2.length c0_2, .slice (some ad627) l0_3.length c0_3] 25 (0, 0)) (mK BK609.out) k_ hk⟩)); (case aO => exact (by (with_reducible repeat (first | apply Kd.N_alloc | apply Kd.N_drewN | apply Kd.N_drew)); exact Kd.N_mono HO_5.out (fun _ hk => ⟨hk.1.1, hk.1.2⟩))); (case aS => exact (yX (by with_reducible repeat first | exact HB.out | apply yO | apply yN | apply yP | refine yQ ?_ GE609.out))); (case aL => have := LMc45.out; omega); intro v653 w55 ho hb hg hat; rw [← Ny652.out] at ho; have n0_ := yA (blk_grown (g := gb609) (o := .cells #[.int .i64 a0_0, .int .i64 a0_1, .slice (some ad633) l0_2.length c0_2, .slice (some ad627) l0_3.length c0_3] 25 (0, 0)) (mK BK609.out) hg (Kd.N_ne HO_5.out BK609.out (by decide))); have n1_ := yA (Kd.V_afterv (ok := (fun k_ => some k_ ≠ (v640 : Value).ownBlock ∧ some k_ ≠ (.slice Ao56 y649.length co56 : Value).ownBlock ∧ k_ ≠ gb609)) (by (with_reducible repeat (first | apply Kd.V_alloc | apply Kd.V_drewN | apply Kd.V_drew)); exact Kd.V_mono HL638_0.out (fun _ hk => ⟨⟨hk.1.2.1, ⟨hk.2, hk.1.2.2⟩⟩, hk.1.1⟩)) hg hat); have n2_ := yA (Kd.R_over' (mR HO641.out) (Kd.N_typed (by (with_reducible repeat (first | apply Kd.N_alloc | apply Kd.N_drewN | apply Kd.N_drew)); exact HO_5.out)) (by decide) hg); have n3_ := yA (Kd.V_afterv (ok := (fun k_ => some k_ ≠ (v640 : Value).ownBlock ∧ some k_ ≠ (.slice Ao56 y649.length co56 : Value).ownBlock ∧ k_ ≠ gb609)) (by (with_reducible repeat (first | apply Kd.V_alloc | apply Kd.V_drewN | apply Kd.V_drew)); exact Kd.V_mono HL645_0.out (fun _ hk => ⟨⟨hk.1.2.1, ⟨hk.2, hk.1.2.2⟩⟩, hk.1.1⟩)) hg hat); have n4_ := yA (hb); have n5_ := yA (ho); clear BK609; clear HL638_0; clear HO641; clear HL645_0; clear HB; clear HO_5; clear HO651; have BK609 := n0_; have HL638_0 := n1_; have HO641 := n2_; have HL645_0 := n3_; have HB := n4_; have HO654 := n5_; clear n0_ n1_ n2_ n3_ n4_ n5_; clear ho hb hg hat))
                        go_roundg k2
                        case measure => have := HK1.out; have := HK2.out; omega
                        case rel => exact ⟨(y639), (y652), (wrap64 (x7_2 + 1)), (by first | rfl | (simp; done) | (simp [*]; done)), H', ⟨by have := HK1.out; have := HK2.out; omega⟩, ⟨by (with_reducible repeat (first | apply yB | apply yC | apply yD)); exact zP HO641.out (fun _ hk => trivial)⟩, ⟨by (with_reducible repeat (first | apply Kd.N_alloc | apply Kd.N_drewN | apply Kd.N_drew)); exact HO654.out⟩, ⟨by (with_reducible repeat (first | refine yS ?_ _ | refine yT ?_ | refine yR ?_ _)); exact BK609.out⟩, ⟨by repeat (first | (with_reducible first | exact HB.out | apply yO | apply yN | apply yP | refine yQ ?_ GE609.out) | exact HB.out)⟩⟩
                       ·rw [if_neg c45] at H
                        exact absurd H (by simp)
                      ·rw [if_neg c44] at H
                       exact absurd H (by simp)
                     ·rw [if_neg c43] at H
                      exact absurd H (by simp)
                    ·rw [if_neg c42] at H
                     exact absurd H (by simp)
                   ·rw [if_neg c41] at H
                    have c41b0 : decide (((rd_L1 x5_2 x6_1).length : Int) < 16) = false := decide_eq_false c41
                    have c41b1 : decide ((rd_L1 x5_2 x6_1).length < 16) = false := decide_eq_false (by omega)
                    clear c41
                    have H' := yA H
                    clear H
                    try go_wp2
                    have n0_ := yA (yD HO_4.out)
                    have n1_ := yA (Kd.N_drew HO_5.out)
                    have n2_ := yA (yT BK609.out)
                    have n3_ := yA (yP HB.out)
                    clear HO_4
                    clear HO_5
                    clear BK609
                    clear HB
                    have HO_4 := n0_
                    have HO_5 := n1_
                    have BK609 := n2_
                    have HB := n3_
                    clear n0_ n1_ n2_ n3_
                    obtain ⟨Ao58, co58, eo58⟩ := Kd.R_slice HO_4.out
                    (first | subst eo58 | (injection eo58 with f1_ f2_ f3_; have f4_ := f1_.symm; have f5_ := f3_.symm; clear f1_ f2_ f3_; subst f4_; subst f5_))
                    have p632 : 0 ≤ (x6_1 : Int) := zG (by first | (with_reducible assumption) | assumption)
                    have q632 : x6_1 < (x4_2.length : Int) := zG (by first | (with_reducible assumption) | assumption)
                    obtain ⟨ad632, e632, hx632_0⟩ := Kd.at_int (zN HO_4.out).2.2 x6_1 p632 q632
                    cases e632
                    replace p632 := eq_true p632
                    replace q632 := eq_true q632
                    have p633 : 0 ≤ ((rd x4_2 x6_1) : Int) := zG (by first | (with_reducible assumption) | assumption)
                    have q633 : (rd x4_2 x6_1) < (l0_2.length : Int) := zG (by first | (with_reducible assumption) | assumption)
                    obtain ⟨ad633, A633_0, c633_0, e633, hx633_0, hl633_0, hi633_0⟩ := at_L1 HR0_2.out (rd x4_2 x6_1) p633 q633
                    have hw633_0 := hx633_0
                    cases e633
                    try replace hx633_0 := (HB.out.cell (zE w _ hx633_0)).trans hx633_0
                    have HR633_0 := yA hi633_0
                    have HC633_0 := yA hl633_0
                    clear hi633_0 hl633_0
                    replace p633 := eq_true p633
                    replace q633 := eq_true q633
                    refine start_ (n := 11) (S := fun w' => w'.cell? ⟨gb609, 0, none⟩ = some (.int .i64 a0_0) ∧ w'.cell? ⟨gb609, 1, none⟩ = some (.int .i64 a0_1) ∧ w'.cell? ⟨gb609, 2, none⟩ = some (.slice (some ad633) l0_2.length c0_2) ∧ w'.cell? ⟨gb609, 3, none⟩ = some (.slice (some ad627) l0_3.length c0_3) ∧ w'.cell? (ad632.add (x6_1).toNat) = some (.int .i64 (rd x4_2 x6_1)) ∧ w'.cell? (ad633.add ((rd x4_2 x6_1)).toNat) = some (.slice A633_0 (rd_L1 l0_2 (rd x4_2 x6_1)).length c633_0)) (ds := []) #[false, false, false, false, false, false, false, false, false, false, false] (by kernel_rfl) rfl rfl ⟨(yV BK609.out 0).trans rfl, (yV BK609.out 1).trans rfl, (yV BK609.out 2).trans rfl, (yV BK609.out 3).trans rfl, hx632_0, ((HB.out.cell (zE w _ hw633_0)).trans hw633_0)⟩ (fun hHeld => ?_); refine with_tabW spec_LeastMember.tab11 spec_LeastMember.bits11 (fun HT_ HW_ => ?_)
                    generalize wr.drew = w57 at HO_4 HO_5 BK609 HB HR633_0 hx632_0 hx633_0 hHeld ⊢
                    refine pure_ (i := 0) (N := some 36) (v := ?_) (a' := ?_) #[true, false, false, false, false, false, false, false, false, false, false] rfl rfl (any_of HT_.out (by kernel_rfl)) (fun _ _ _ h => h) (Or.inl ⟨by rfl, ?_⟩) ?_ ?_
                    rotate_left
                    ·intro w'
                     go_simp
                     with_reducible rfl
                    rotate_left
                    ·simp only [Act.put, zA, zB, zC, i64_w, i32_w]
                     rfl
                    refine pure_ (i := 1) (N := some 37) (v := ?_) (a' := ?_) #[true, true, false, false, false, false, false, false, false, false, false] rfl rfl (any_of HT_.out (by kernel_rfl)) (fun _ _ _ h => h) (Or.inl ⟨by rfl, ?_⟩) ?_ ?_
                    rotate_left
                    ·intro w'
                     go_simp
                     with_reducible rfl
                    rotate_left
                    ·simp only [Act.put, zA, zB, zC, i64_w, i32_w]
                     rfl
                    refine pure_ (i := 3) (N := some 39) (v := ?_) (a' := ?_) #[true, true, false, true, false, false, false, false, false, false, false] rfl rfl (any_of HT_.out (by kernel_rfl)) (fun _ _ _ h => h) (Or.inl ⟨by rfl, ?_⟩) ?_ ?_
                    rotate_left
                    ·intro w'
                     go_simp
                     with_reducible rfl
                    rotate_left
                    ·simp only [Act.put, zA, zB, zC, i64_w, i32_w]
                     rfl
                    refine pure_ (i := 4) (N := some 40) (v := ?_) (a' := ?_) #[true, true, false, true, true, false, false, false, false, false, false] rfl rfl (any_of HT_.out (by kernel_rfl)) (fun _ _ _ h => h) (Or.inl ⟨by rfl, ?_⟩) ?_ ?_
                    rotate_left
                    ·intro w'
                     go_simp
                     with_reducible rfl
                    rotate_left
                    ·simp only [Act.put, zA, zB, zC, i64_w, i32_w]
                     rfl
                    refine pure_ (i := 5) (N := some 41) (v := ?_) (a' := ?_) #[true, true, false, true, true, true, false, false, false, false, false] rfl rfl (any_of HT_.out (by kernel_rfl)) (fun _ _ _ h => h) (Or.inl ⟨by rfl, ?_⟩) ?_ ?_
                    rotate_left
                    ·intro w'
                     go_simp
                     with_reducible rfl
                    rotate_left
                    ·simp only [Act.put, zA, zB, zC, i64_w, i32_w]
                     rfl
                    refine take_ (i := 2) (N := some 38) (v := ?_) (a' := ?_) #[true, true, true, true, true, true, false, false, false, false, false] rfl rfl (take_ofW HT_.out HW_.out (by kernel_rfl)) (fun _ _ _ h => h) (Or.inl ⟨by rfl, ?_⟩) hHeld ?_ ?_
                    rotate_left
                    ·rintro w' ⟨s0, s1, s2, s3, s4, s5⟩
                     go_simp
                     with_reducible rfl
                    rotate_left
                    ·simp only [Act.put, zA, zB, zC, i64_w, i32_w]
                     rfl
                    refine take_ (i := 6) (N := some 42) (v := ?_) (a' := ?_) #[true, true, true, true, true, true, true, false, false, false, false] rfl rfl (take_ofW HT_.out HW_.out (by kernel_rfl)) (fun _ _ _ h => h) (Or.inl ⟨by rfl, ?_⟩) hHeld ?_ ?_
                    rotate_left
                    ·rintro w' ⟨s0, s1, s2, s3, s4, s5⟩
                     go_simp
                     with_reducible rfl
                    rotate_left
                    ·simp only [Act.put, zA, zB, zC, i64_w, i32_w]
                     rfl
                    refine pure_ (i := 7) (N := some 43) (v := ?_) (a' := ?_) #[true, true, true, true, true, true, true, true, false, false, false] rfl rfl (any_of HT_.out (by kernel_rfl)) (fun _ _ _ h => h) (Or.inl ⟨by rfl, ?_⟩) ?_ ?_
                    rotate_left
                    ·intro w'
                     go_simp
                     with_reducible rfl
                    rotate_left
                    ·simp only [Act.put, zA, zB, zC, i64_w, i32_w]
                     rfl
                    refine take_ (i := 8) (N := some 44) (v := ?_) (a' := ?_) #[true, true, true, true, true, true, true, true, true, false, false] rfl rfl (take_ofW HT_.out HW_.out (by kernel_rfl)) (fun _ _ _ h => h) (Or.inl ⟨by rfl, ?_⟩) hHeld ?_ ?_
                    rotate_left
                    ·rintro w' ⟨s0, s1, s2, s3, s4, s5⟩
                     go_simp
                     with_reducible rfl
                    rotate_left
                    ·simp only [Act.put, zA, zB, zC, i64_w, i32_w]
                     rfl
                    refine pure_ (i := 9) (N := some 45) (v := ?_) (a' := ?_) #[true, true, true, true, true, true, true, true, true, true, false] rfl rfl (any_of HT_.out (by kernel_rfl)) (fun _ _ _ h => h) (Or.inl ⟨by rfl, ?_⟩) ?_ ?_
                    rotate_left
                    ·intro w'
                     go_simp
                     with_reducible rfl
                    rotate_left
                    ·simp only [Act.put, zA, zB, zC, i64_w, i32_w]
                     rfl
                    refine pure_ (i := 10) (N := some 46) (v := ?_) (a' := ?_) #[true, true, true, true, true, true, true, true, true, true, true] rfl rfl (any_of HT_.out (by kernel_rfl)) (fun _ _ _ h => h) (Or.inl ⟨by rfl, ?_⟩) ?_ ?_
                    rotate_left
                    ·intro w'
                     go_simp
                     with_reducible rfl
                    rotate_left
                    ·simp only [Act.put, zA, zB, zC, i64_w, i32_w]
                     rfl
                    refine done_ (done_of HT_.out (by kernel_rfl)) ?_
                    try go_wp2
                    have n0_ := yA (yD HO_4.out)
                    have n1_ := yA (Kd.N_drew HO_5.out)
                    have n2_ := yA (yT BK609.out)
                    have n3_ := yA (yP HB.out)
                    clear HO_4
                    clear HO_5
                    clear BK609
                    clear HB
                    have HO_4 := n0_
                    have HO_5 := n1_
                    have BK609 := n2_
                    have HB := n3_
                    clear n0_ n1_ n2_ n3_
                    have p634 : 0 ≤ (x6_1 : Int) := zG (by first | (with_reducible assumption) | assumption)
                    have q634 : x6_1 < (x4_2.length : Int) := zG (by first | (with_reducible assumption) | assumption)
                    obtain ⟨ad634, e634, hx634_0⟩ := Kd.at_int (zN HO_4.out).2.2 x6_1 p634 q634
                    obtain rfl : ad632 = ad634 := (by injection e634)
                    replace p634 := eq_true p634
                    replace q634 := eq_true q634
                    have p635 : 0 ≤ ((rd x4_2 x6_1) : Int) := zG (by first | (with_reducible assumption) | assumption)
                    have q635 : (rd x4_2 x6_1) < (l0_2.length : Int) := zG (by first | (with_reducible assumption) | assumption)
                    obtain ⟨ad635, A635_0, c635_0, e635, hx635_0, hl635_0, hi635_0⟩ := at_L1 HR0_2.out (rd x4_2 x6_1) p635 q635
                    have hw635_0 := hx635_0
                    obtain rfl : ad633 = ad635 := (by injection e635)
                    try replace hx635_0 := (HB.out.cell (zE w _ hx635_0)).trans hx635_0
                    have HR635_0 := yA hi635_0
                    have HC635_0 := yA hl635_0
                    clear hi635_0 hl635_0
                    replace p635 := eq_true p635
                    replace q635 := eq_true q635
                    have p636 : 0 ≤ (x7_2 : Int) := zG (by first | (with_reducible assumption) | assumption)
                    have q636 : x7_2 < ((rd_L1 l0_2 (rd x4_2 x6_1)).length : Int) := zG (by first | (with_reducible assumption) | assumption)
                    obtain ⟨ad636, e636, hx636_0⟩ := Kd.at_int HR635_0.out x7_2 p636 q636
                    have hw636_0 := hx636_0
                    cases e636
                    try replace hx636_0 := (HB.out.cell (zE w _ hx636_0)).trans hx636_0
                    replace p636 := eq_true p636
                    replace q636 := eq_true q636
                    refine start_ (n := 12) (S := fun w' => w'.cell? ⟨gb609, 0, none⟩ = some (.int .i64 a0_0) ∧ w'.cell? ⟨gb609, 1, none⟩ = some (.int .i64 a0_1) ∧ w'.cell? ⟨gb609, 2, none⟩ = some (.slice (some ad633) l0_2.length c0_2) ∧ w'.cell? ⟨gb609, 3, none⟩ = some (.slice (some ad627) l0_3.length c0_3) ∧ w'.cell? (ad632.add (x6_1).toNat) = some (.int .i64 (rd x4_2 x6_1)) ∧ w'.cell? (ad633.add ((rd x4_2 x6_1)).toNat) = some (.slice (some ad636) (rd_L1 l0_2 (rd x4_2 x6_1)).length c635_0) ∧ w'.cell? (ad636.add (x7_2).toNat) = some (.int .i64 (rd (rd_L1 l0_2 (rd x4_2 x6_1)) x7_2))) (ds := []) #[false, false, false, false, false, false, false, false, false, false, false, false] (by kernel_rfl) rfl rfl ⟨(yV BK609.out 0).trans rfl, (yV BK609.out 1).trans rfl, (yV BK609.out 2).trans rfl, (yV BK609.out 3).trans rfl, hx634_0, ((HB.out.cell (zE w _ hw635_0)).trans hw635_0), ((HB.out.cell (zE w _ hw636_0)).trans hw636_0)⟩ (fun hHeld => ?_); refine with_tabW spec_LeastMember.tab13 spec_LeastMember.bits13 (fun HT_ HW_ => ?_)
                    generalize w57.drew = w59 at HO_4 HO_5 BK609 HB HR635_0 hx634_0 hx635_0 hx636_0 hHeld ⊢
                    refine pure_ (i := 0) (N := some 49) (v := ?_) (a' := ?_) #[true, false, false, false, false, false, false, false, false, false, false, false] rfl rfl (any_of HT_.out (by kernel_rfl)) (fun _ _ _ h => h) (Or.inl ⟨by rfl, ?_⟩) ?_ ?_
                    rotate_left
                    ·intro w'
                     go_simp
                     with_reducible rfl
                    rotate_left
                    ·simp only [Act.put, zA, zB, zC, i64_w, i32_w]
                     rfl
                    refine pure_ (i := 2) (N := some 51) (v := ?_) (a' := ?_) #[true, false, true, false, false, false, false, false, false, false, false, false] rfl rfl (any_of HT_.out (by kernel_rfl)) (fun _ _ _ h => h) (Or.inl ⟨by rfl, ?_⟩) ?_ ?_
                    rotate_left
                    ·intro w'
                     go_simp
                     with_reducible rfl
                    rotate_left
                    ·simp only [Act.put, zA, zB, zC, i64_w, i32_w]
                     rfl
                    refine pure_ (i := 3) (N := some 52) (v := ?_) (a' := ?_) #[true, false, true, true, false, false, false, false, false, false, false, false] rfl rfl (any_of HT_.out (by kernel_rfl)) (fun _ _ _ h => h) (Or.inl ⟨by rfl, ?_⟩) ?_ ?_
                    rotate_left
                    ·intro w'
                     go_simp
                     with_reducible rfl
                    rotate_left
                    ·simp only [Act.put, zA, zB, zC, i64_w, i32_w]
                     rfl
                    refine pure_ (i := 4) (N := some 53) (v := ?_) (a' := ?_) #[true, false, true, true, true, false, false, false, false, false, false, false] rfl rfl (any_of HT_.out (by kernel_rfl)) (fun _ _ _ h => h) (Or.inl ⟨by rfl, ?_⟩) ?_ ?_
                    rotate_left
                    ·intro w'
                     go_simp
                     with_reducible rfl
                    rotate_left
                    ·simp only [Act.put, zA, zB, zC, i64_w, i32_w]
                     rfl
                    refine pure_ (i := 8) (N := some 57) (v := ?_) (a' := ?_) #[true, false, true, true, true, false, false, false, true, false, false, false] rfl rfl (any_of HT_.out (by kernel_rfl)) (fun _ _ _ h => h) (Or.inl ⟨by rfl, ?_⟩) ?_ ?_
                    rotate_left
                    ·intro w'
                     go_simp
                     with_reducible rfl
                    rotate_left
                    ·simp only [Act.put, zA, zB, zC, i64_w, i32_w]
                     rfl
                    refine take_ (i := 1) (N := some 50) (v := ?_) (a' := ?_) #[true, true, true, true, true, false, false, false, true, false, false, false] rfl rfl (take_ofW HT_.out HW_.out (by kernel_rfl)) (fun _ _ _ h => h) (Or.inl ⟨by rfl, ?_⟩) hHeld ?_ ?_
                    rotate_left
                    ·rintro w' ⟨s0, s1, s2, s3, s4, s5, s6⟩
                     go_simp
                     with_reducible rfl
                    rotate_left
                    ·simp only [Act.put, zA, zB, zC, i64_w, i32_w]
                     rfl
                    refine take_ (i := 5) (N := some 54) (v := ?_) (a' := ?_) #[true, true, true, true, true, true, false, false, true, false, false, false] rfl rfl (take_ofW HT_.out HW_.out (by kernel_rfl)) (fun _ _ _ h => h) (Or.inl ⟨by rfl, ?_⟩) hHeld ?_ ?_
                    rotate_left
                    ·rintro w' ⟨s0, s1, s2, s3, s4, s5, s6⟩
                     go_simp
                     with_reducible rfl
                    rotate_left
                    ·simp only [Act.put, zA, zB, zC, i64_w, i32_w]
                     rfl
                    refine pure_ (i := 6) (N := some 55) (v := ?_) (a' := ?_) #[true, true, true, true, true, true, true, false, true, false, false, false] rfl rfl (any_of HT_.out (by kernel_rfl)) (fun _ _ _ h => h) (Or.inl ⟨by rfl, ?_⟩) ?_ ?_
                    rotate_left
                    ·intro w'
                     go_simp
                     with_reducible rfl
                    rotate_left
                    ·simp only [Act.put, zA, zB, zC, i64_w, i32_w]
                     rfl
                    refine take_ (i := 7) (N := some 56) (v := ?_) (a' := ?_) #[true, true, true, true, true, true, true, true, true, false, false, false] rfl rfl (take_ofW HT_.out HW_.out (by kernel_rfl)) (fun _ _ _ h => h) (Or.inl ⟨by rfl, ?_⟩) hHeld ?_ ?_
                    rotate_left
                    ·rintro w' ⟨s0, s1, s2, s3, s4, s5, s6⟩
                     go_simp
                     with_reducible rfl
                    rotate_left
                    ·simp only [Act.put, zA, zB, zC, i64_w, i32_w]
                     rfl
                    refine pure_ (i := 9) (N := some 58) (v := ?_) (a' := ?_) #[true, true, true, true, true, true, true, true, true, true, false, false] rfl rfl (any_of HT_.out (by kernel_rfl)) (fun _ _ _ h => h) (Or.inl ⟨by rfl, ?_⟩) ?_ ?_
                    rotate_left
                    ·intro w'
                     go_simp
                     with_reducible rfl
                    rotate_left
                    ·simp only [Act.put, zA, zB, zC, i64_w, i32_w]
                     rfl
                    refine take_ (i := 10) (N := some 59) (v := ?_) (a' := ?_) #[true, true, true, true, true, true, true, true, true, true, true, false] rfl rfl (take_ofW HT_.out HW_.out (by kernel_rfl)) (fun _ _ _ h => h) (Or.inl ⟨by rfl, ?_⟩) hHeld ?_ ?_
                    rotate_left
                    ·rintro w' ⟨s0, s1, s2, s3, s4, s5, s6⟩
                     go_simp
                     with_reducible rfl
                    rotate_left
                    ·simp only [Act.put, zA, zB, zC, i64_w, i32_w]
                     rfl
                    refine pure_ (i := 11) (N := some 8) (v := ?_) (a' := ?_) #[true, true, true, true, true, true, true, true, true, true, true, true] rfl rfl (any_of HT_.out (by kernel_rfl)) (fun _ _ _ h => h) (Or.inl ⟨by rfl, ?_⟩) ?_ ?_
                    rotate_left
                    ·intro w'
                     go_simp
                     with_reducible rfl
                    rotate_left
                    ·simp only [Act.put, zA, zB, zC, i64_w, i32_w]
                     rfl
                    refine done_ (done_of HT_.out (by kernel_rfl)) ?_
                    try go_wp2_with (first | ((with_reducible refine zS (f := 74) rfl ?_); refine goesL_ (some 62) rfl rfl Try.func74 (by kernel_rfl) rfl #[.slice (some ad632) x4_2.length co58, .int .i64 (rd (rd_L1 l0_2 (rd x4_2 x6_1)) x7_2)] rfl (by (try simp only [zI, zJ, zK]); first | done | rfl | (simp only [zL, zM]; rfl)) ?_; (with_reducible refine (spec_l4Has.calls k2 _ _ x4_2 (rd (rd_L1 l0_2 (rd x4_2 x6_1)) x7_2) false _ ?side1 ?side2 A35.out).mono ?_); (case side1 => exact mC ((zN HO_4.out).2.2)); (case side2 => exact (zN HO_4.out).2.1); rintro e w' ⟨rfl, ⟨nd, rfl⟩⟩; refine ⟨_, rfl, ?_⟩; obtain ⟨Ao60, co60, eo60⟩ := Kd.N_slice HO_5.out; subst eo60; have p638 : 0 ≤ (x6_1 : Int) := zG (by first | (with_reducible assumption) | assumption); have q638 : x6_1 < (x5_2.length : Int) := zG (by first | (with_reducible assumption) | assumption); obtain ⟨ad638, A638_0, c638_0, e638, hx638_0, hl638_0, hi638_0⟩ := at_L1 (Kd.N_reads' HO_5.out).2.2 x6_1 p638 q638; cases e638; obtain ⟨ce638, hce638, hMe638, hcc638⟩ := Kd.N_get HO_5.out [] x6_1 p638 (by first | exact q638 | exact zG (by first | (with_reducible assumption) | assumption) | (have e_ := (Kd.N_reads' HO_5.out).1; omega)); obtain ⟨ua638_0, uc638_0, rfl, ul638_0, ge638_0⟩ := Kd.FK_slice_open hMe638; have hv638_0 := hcc638 0 _ rfl; rw [Nat.add_zero, show ((Kd.slice 3 (Kd.int .i64))).sz = 1 from rfl, Nat.mul_one] at hv638_0; replace hv638_0 := zU (hv638_0.symm.trans hx638_0); injection hv638_0 with hva_ hvn_ hvc_; rw [hva_] at ge638_0; rw [hvc_] at ul638_0; have HL638_0 := yA (show Kd.V (Kd.int .i64) 3 _ w.heap.size _ _ (rd_L1 x5_2 x6_1) from Kd.V_mk ul638_0 ge638_0); clear hva_ hvn_ hvc_ ge638_0 ul638_0; clear hcc638 hce638; have HR638_0 := yA hi638_0; have HC638_0 := yA hl638_0; clear hi638_0 hl638_0; replace p638 := eq_true p638; replace q638 := eq_true q638))
                    go_roundg k2
                    case measure => have := HK1.out; have := HK2.out; omega
                    case rel => exact ⟨(x4_2), (x5_2), (wrap64 (x7_2 + 1)), (by first | rfl | (simp; done) | (simp [*]; done)), H', ⟨by have := HK1.out; have := HK2.out; omega⟩, ⟨by (with_reducible repeat (first | apply yB | apply yC | apply yD)); exact HO_4.out⟩, ⟨by (with_reducible repeat (first | apply Kd.N_alloc | apply Kd.N_drewN | apply Kd.N_drew)); exact HO_5.out⟩, ⟨by (with_reducible repeat (first | refine yS ?_ _ | refine yT ?_ | refine yR ?_ _)); exact BK609.out⟩, ⟨by repeat (first | (with_reducible first | exact HB.out | apply yO | apply yN | apply yP | refine yQ ?_ GE609.out) | exact HB.out)⟩⟩
                  ·rw [if_neg c40] at H
                   exact absurd H (by simp)
                ·rw [if_neg c34] at H
                 exact absurd H (by simp)
               ·rw [if_neg c33] at H
                have c33b0 : decide (x7_2 < ((rd_L1 l0_2 (rd x4_2 x6_1)).length : Int)) = false := decide_eq_false c33
                clear c33
                have H' := yA H
                clear H
                try go_wp2
                have n0_ := yA (yD HO_4.out)
                have n1_ := yA (Kd.N_drew HO_5.out)
                have n2_ := yA (yT BK609.out)
                have n3_ := yA (yP HB.out)
                clear HO_4
                clear HO_5
                clear BK609
                clear HB
                have HO_4 := n0_
                have HO_5 := n1_
                have BK609 := n2_
                have HB := n3_
                clear n0_ n1_ n2_ n3_
                obtain ⟨Ao62, co62, eo62⟩ := Kd.R_slice HO_4.out
                (first | subst eo62 | (injection eo62 with f1_ f2_ f3_; have f4_ := f1_.symm; have f5_ := f3_.symm; clear f1_ f2_ f3_; subst f4_; subst f5_))
                have p632 : 0 ≤ (x6_1 : Int) := zG (by first | (with_reducible assumption) | assumption)
                have q632 : x6_1 < (x4_2.length : Int) := zG (by first | (with_reducible assumption) | assumption)
                obtain ⟨ad632, e632, hx632_0⟩ := Kd.at_int (zN HO_4.out).2.2 x6_1 p632 q632
                cases e632
                replace p632 := eq_true p632
                replace q632 := eq_true q632
                have p633 : 0 ≤ ((rd x4_2 x6_1) : Int) := zG (by first | (with_reducible assumption) | assumption)
                have q633 : (rd x4_2 x6_1) < (l0_2.length : Int) := zG (by first | (with_reducible assumption) | assumption)
                obtain ⟨ad633, A633_0, c633_0, e633, hx633_0, hl633_0, hi633_0⟩ := at_L1 HR0_2.out (rd x4_2 x6_1) p633 q633
                have hw633_0 := hx633_0
                cases e633
                try replace hx633_0 := (HB.out.cell (zE w _ hx633_0)).trans hx633_0
                have HR633_0 := yA hi633_0
                have HC633_0 := yA hl633_0
                clear hi633_0 hl633_0
                replace p633 := eq_true p633
                replace q633 := eq_true q633
                refine start_ (n := 11) (S := fun w' => w'.cell? ⟨gb609, 0, none⟩ = some (.int .i64 a0_0) ∧ w'.cell? ⟨gb609, 1, none⟩ = some (.int .i64 a0_1) ∧ w'.cell? ⟨gb609, 2, none⟩ = some (.slice (some ad633) l0_2.length c0_2) ∧ w'.cell? ⟨gb609, 3, none⟩ = some (.slice (some ad627) l0_3.length c0_3) ∧ w'.cell? (ad632.add (x6_1).toNat) = some (.int .i64 (rd x4_2 x6_1)) ∧ w'.cell? (ad633.add ((rd x4_2 x6_1)).toNat) = some (.slice A633_0 (rd_L1 l0_2 (rd x4_2 x6_1)).length c633_0)) (ds := []) #[false, false, false, false, false, false, false, false, false, false, false] (by kernel_rfl) rfl rfl ⟨(yV BK609.out 0).trans rfl, (yV BK609.out 1).trans rfl, (yV BK609.out 2).trans rfl, (yV BK609.out 3).trans rfl, hx632_0, ((HB.out.cell (zE w _ hw633_0)).trans hw633_0)⟩ (fun hHeld => ?_); refine with_tabW spec_LeastMember.tab11 spec_LeastMember.bits11 (fun HT_ HW_ => ?_)
                generalize wr.drew = w61 at HO_4 HO_5 BK609 HB HR633_0 hx632_0 hx633_0 hHeld ⊢
                refine pure_ (i := 0) (N := some 36) (v := ?_) (a' := ?_) #[true, false, false, false, false, false, false, false, false, false, false] rfl rfl (any_of HT_.out (by kernel_rfl)) (fun _ _ _ h => h) (Or.inl ⟨by rfl, ?_⟩) ?_ ?_
                rotate_left
                ·intro w'
                 go_simp
                 with_reducible rfl
                rotate_left
                ·simp only [Act.put, zA, zB, zC, i64_w, i32_w]
                 rfl
                refine pure_ (i := 1) (N := some 37) (v := ?_) (a' := ?_) #[true, true, false, false, false, false, false, false, false, false, false] rfl rfl (any_of HT_.out (by kernel_rfl)) (fun _ _ _ h => h) (Or.inl ⟨by rfl, ?_⟩) ?_ ?_
                rotate_left
                ·intro w'
                 go_simp
                 with_reducible rfl
                rotate_left
                ·simp only [Act.put, zA, zB, zC, i64_w, i32_w]
                 rfl
                refine pure_ (i := 3) (N := some 39) (v := ?_) (a' := ?_) #[true, true, false, true, false, false, false, false, false, false, false] rfl rfl (any_of HT_.out (by kernel_rfl)) (fun _ _ _ h => h) (Or.inl ⟨by rfl, ?_⟩) ?_ ?_
                rotate_left
                ·intro w'
                 go_simp
                 with_reducible rfl
                rotate_left
                ·simp only [Act.put, zA, zB, zC, i64_w, i32_w]
                 rfl
                refine pure_ (i := 4) (N := some 40) (v := ?_) (a' := ?_) #[true, true, false, true, true, false, false, false, false, false, false] rfl rfl (any_of HT_.out (by kernel_rfl)) (fun _ _ _ h => h) (Or.inl ⟨by rfl, ?_⟩) ?_ ?_
                rotate_left
                ·intro w'
                 go_simp
                 with_reducible rfl
                rotate_left
                ·simp only [Act.put, zA, zB, zC, i64_w, i32_w]
                 rfl
                refine pure_ (i := 5) (N := some 41) (v := ?_) (a' := ?_) #[true, true, false, true, true, true, false, false, false, false, false] rfl rfl (any_of HT_.out (by kernel_rfl)) (fun _ _ _ h => h) (Or.inl ⟨by rfl, ?_⟩) ?_ ?_
                rotate_left
                ·intro w'
                 go_simp
                 with_reducible rfl
                rotate_left
                ·simp only [Act.put, zA, zB, zC, i64_w, i32_w]
                 rfl
                refine take_ (i := 2) (N := some 38) (v := ?_) (a' := ?_) #[true, true, true, true, true, true, false, false, false, false, false] rfl rfl (take_ofW HT_.out HW_.out (by kernel_rfl)) (fun _ _ _ h => h) (Or.inl ⟨by rfl, ?_⟩) hHeld ?_ ?_
                rotate_left
                ·rintro w' ⟨s0, s1, s2, s3, s4, s5⟩
                 go_simp
                 with_reducible rfl
                rotate_left
                ·simp only [Act.put, zA, zB, zC, i64_w, i32_w]
                 rfl
                refine take_ (i := 6) (N := some 42) (v := ?_) (a' := ?_) #[true, true, true, true, true, true, true, false, false, false, false] rfl rfl (take_ofW HT_.out HW_.out (by kernel_rfl)) (fun _ _ _ h => h) (Or.inl ⟨by rfl, ?_⟩) hHeld ?_ ?_
                rotate_left
                ·rintro w' ⟨s0, s1, s2, s3, s4, s5⟩
                 go_simp
                 with_reducible rfl
                rotate_left
                ·simp only [Act.put, zA, zB, zC, i64_w, i32_w]
                 rfl
                refine pure_ (i := 7) (N := some 43) (v := ?_) (a' := ?_) #[true, true, true, true, true, true, true, true, false, false, false] rfl rfl (any_of HT_.out (by kernel_rfl)) (fun _ _ _ h => h) (Or.inl ⟨by rfl, ?_⟩) ?_ ?_
                rotate_left
                ·intro w'
                 go_simp
                 with_reducible rfl
                rotate_left
                ·simp only [Act.put, zA, zB, zC, i64_w, i32_w]
                 rfl
                refine take_ (i := 8) (N := some 44) (v := ?_) (a' := ?_) #[true, true, true, true, true, true, true, true, true, false, false] rfl rfl (take_ofW HT_.out HW_.out (by kernel_rfl)) (fun _ _ _ h => h) (Or.inl ⟨by rfl, ?_⟩) hHeld ?_ ?_
                rotate_left
                ·rintro w' ⟨s0, s1, s2, s3, s4, s5⟩
                 go_simp
                 with_reducible rfl
                rotate_left
                ·simp only [Act.put, zA, zB, zC, i64_w, i32_w]
                 rfl
                refine pure_ (i := 9) (N := some 45) (v := ?_) (a' := ?_) #[true, true, true, true, true, true, true, true, true, true, false] rfl rfl (any_of HT_.out (by kernel_rfl)) (fun _ _ _ h => h) (Or.inl ⟨by rfl, ?_⟩) ?_ ?_
                rotate_left
                ·intro w'
                 go_simp
                 with_reducible rfl
                rotate_left
                ·simp only [Act.put, zA, zB, zC, i64_w, i32_w]
                 rfl
                refine pure_ (i := 10) (N := some 46) (v := ?_) (a' := ?_) #[true, true, true, true, true, true, true, true, true, true, true] rfl rfl (any_of HT_.out (by kernel_rfl)) (fun _ _ _ h => h) (Or.inl ⟨by rfl, ?_⟩) ?_ ?_
                rotate_left
                ·intro w'
                 go_simp
                 with_reducible rfl
                rotate_left
                ·simp only [Act.put, zA, zB, zC, i64_w, i32_w]
                 rfl
                refine done_ (done_of HT_.out (by kernel_rfl)) ?_
                try go_wp2
                go_roundg k2
                case measure => have := HK1.out; have := HK2.out; omega
                case rel => exact ⟨(x4_2), (x5_2), (wrap64 (x6_1 + 1)), (by first | rfl | (simp; done) | (simp [*]; done)), H', ⟨by have := HK1.out; have := HK2.out; omega⟩, ⟨by (with_reducible repeat (first | apply yB | apply yC | apply yD)); exact HO_4.out⟩, ⟨by (with_reducible repeat (first | apply Kd.N_alloc | apply Kd.N_drewN | apply Kd.N_drew)); exact HO_5.out⟩, ⟨by (with_reducible repeat (first | refine yS ?_ _ | refine yT ?_ | refine yR ?_ _)); exact BK609.out⟩, ⟨by repeat (first | (with_reducible first | exact HB.out | apply yO | apply yN | apply yP | refine yQ ?_ GE609.out) | exact HB.out)⟩⟩
              ·rw [if_neg c32] at H
               exact absurd H (by simp)
             ·rw [if_neg c31] at H
              exact absurd H (by simp)
            ·rw [if_neg c30] at H
             exact absurd H (by simp)
           ·rw [if_neg c29] at H
            exact absurd H (by simp)
       ·rw [if_neg c17] at H
        exact absurd H (by simp)
      ·rw [if_neg c16] at H
       exact absurd H (by simp)
     ·rw [if_neg c15] at H
      exact absurd H (by simp)
    ·rw [if_neg c14] at H
     have c14b0 : decide (x6_1 < (x4_1.length : Int)) = false := decide_eq_false c14
     clear c14
     obtain ⟨y623, hy623⟩ : ∃ y_ : List Int, y_ = (([] : List Int)) := ⟨_, rfl⟩
     replace H : (some (y623, false)) = some (r1, r2) := by first | (rw [hy623]; with_reducible exact H) | (have H2_ := (Option.bind_some _ _).symm.trans H; rw [hy623]; with_reducible exact H2_) | (have H2_ := (Option.bind_some _ _).symm.trans H; with_reducible exact H2_) | with_reducible exact H | (rw [hy623]; exact H) | exact H
     have Ny623 := yA hy623
     clear hy623
     simp only [Option.some.injEq, Prod.mk.injEq] at H
     obtain ⟨rfl, rfl⟩ := H
     obtain ⟨Ao63, co63, eo63⟩ := Kd.R_slice HO_4.out
     subst eo63
     go_wp2_with (first | ((with_reducible refine gate_dst (N := 88) rfl ?_); refine Kd.R_lit (Kd.int .i64) _ 3 ?hg (N := 88) ?hd (xs := ([] : List Int)) (inner := []) (ok := fun _ => True) (okp := fun _ => True) ?hr ?hp (fun _ hk => hk) trivial (zV _ _) (zT _) (by simp) ?_; (case hd => rfl); (case hg => rfl); (case hr => first | (go_simp; done) | (go_simp; rfl)); (case hp => exact (Reps.none _ _)); intro v624 w64 ho65 hb hg_ hnew_; clear hg_ hnew_; (first | rw [← Ny623.out] at ho65 | (simp only [Int.reduceToNat] at ho65; rw [← Ny623.out] at ho65)); have n0_ := yA (zO (mR HO_4.out) (yY ho65) hb); have n1_ := yA (Kd.N_elder' (by (with_reducible repeat (first | apply Kd.N_alloc | apply Kd.N_drewN | apply Kd.N_drew)); exact HO_5.out) (yY ho65) hb); have n2_ := yA (Kd.R_lower (Kd.R_new' ho65 (yZ (mR HO_4.out))) (yX (by with_reducible repeat first | exact HB.out | apply yO | apply yN | apply yP | refine yQ ?_ GE609.out))); have n3_ := yA (yU (mK BK609.out) hb); have n4_ := yA (zD (by with_reducible repeat first | exact HB.out | apply yO | apply yN | apply yP | refine yQ ?_ GE609.out) hb); clear HO_4; clear HO_5; clear BK609; clear HB; have HO_4 := n0_; have HO_5 := n1_; have HO625 := n2_; have BK609 := n3_; have HB := n4_; clear n0_ n1_ n2_ n3_ n4_; clear hb ho65))
     go_ret2
     exact ⟨_, by first | rfl | (simp [errW_none, errW_some] <;> rfl) | (simp [*, errW_none, errW_some] <;> rfl), by (with_reducible repeat (first | apply yB | apply yC | apply yD)); exact zP HO625.out (fun _ hk => trivial), by repeat (first | (with_reducible first | exact HB.out | apply yO | apply yN | apply yP | refine yQ ?_ GE609.out) | exact HB.out)⟩
 ·replace c3 := Bool.eq_false_iff.mpr c3
  subst c3
  have H1 : (some ((([] : List Int)), false)) = some (r1, r2) := by rw [if_neg (show ¬ (false = true) by decide)] at H; exact H
  clear H
  have H := H1
  clear H1
  obtain ⟨y611, hy611⟩ : ∃ y_ : List Int, y_ = (([] : List Int)) := ⟨_, rfl⟩
  replace H : (some (y611, false)) = some (r1, r2) := by first | (rw [hy611]; with_reducible exact H) | (have H2_ := (Option.bind_some _ _).symm.trans H; rw [hy611]; with_reducible exact H2_) | (have H2_ := (Option.bind_some _ _).symm.trans H; with_reducible exact H2_) | with_reducible exact H | (rw [hy611]; exact H) | exact H
  have Ny611 := yA hy611
  clear hy611
  simp only [Option.some.injEq, Prod.mk.injEq] at H
  obtain ⟨rfl, rfl⟩ := H
  go_enter Try.func32, Try.ntmps32
  go_wp2_with (first | ((with_reducible refine gate_dst (N := 1) rfl ?_); refine box_event ?hg (N := 1) ?hd (cs := #[.int .i64 a0_0, .int .i64 a0_1, .slice A0_2 l0_2.length c0_2, .slice A0_3 l0_3.length c0_3]) (t := 25) ?hr ?_; (case hd => rfl); (case hg => rfl); (case hr => first | (go_simp; done) | (go_simp; rfl)); intro gb609 hg w66 hbox hb; have n0_ := yA (zD (mB HB.out) hb); have n1_ := yA (hbox); have n2_ := yA ((by rw [hg]; exact (yX (mB HB.out)) : w.heap.size ≤ gb609)); have n3_ := yA ((by rw [hg]; exact (yX (mB HB.out)) : w.heap.size ≤ gb609)); clear HB; have HB := n0_; have BK609 := n1_; have GW609 := n2_; have GE609 := n3_; clear n0_ n1_ n2_ n3_; clear hb hbox hg; have hcz67_0 : w66.cell? ⟨gb609, 0, none⟩ = some (.int .i64 a0_0) := (yV BK609.out 0).trans rfl; have hcz67_1 : w66.cell? ⟨gb609, 1, none⟩ = some (.int .i64 a0_1) := (yV BK609.out 1).trans rfl; have hcz67_2 : w66.cell? ⟨gb609, 2, none⟩ = some (.slice A0_2 l0_2.length c0_2) := (yV BK609.out 2).trans rfl; have hcz67_3 : w66.cell? ⟨gb609, 3, none⟩ = some (.slice A0_3 l0_3.length c0_3) := (yV BK609.out 3).trans rfl; have hfz67_0 := yW BK609.out 0; have hfz67_1 := yW BK609.out 1; have hfz67_2 := yW BK609.out 2; have hfz67_3 := yW BK609.out 3) | ((with_reducible refine zS (f := 67) rfl ?_); refine goesL_ (some 10) rfl rfl Try.func67 (by kernel_rfl) rfl #[.agg #[.int .i64 a0_0, .int .i64 a0_1, .slice A0_2 l0_2.length c0_2, .slice A0_3 l0_3.length c0_3]] rfl (by (try simp only [zI, zJ, zK]); first | done | rfl | (simp only [zL, zM]; rfl)) ?_; (with_reducible refine (spec_IsRelation.calls k a0_0 a0_1 _ _ l0_2 _ _ l0_3 false _ ?side1 ?side2 ?side3 ?side4 A2.out).mono ?_); (case side1 => exact mC (yM HR0_2.out HB.out)); (case side2 => exact HC0_2.out); (case side3 => exact mC (yM HR0_3.out HB.out)); (case side4 => exact HC0_3.out); rintro e w68 ⟨rfl, hb⟩; refine ⟨_, rfl, ?_⟩; have n0_ := yA (yU (mK BK609.out) hb); have n1_ := yA (zD (by with_reducible repeat first | exact HB.out | apply yO | apply yN | apply yP | refine yQ ?_ GE609.out) hb); clear BK609; clear HB; have BK609 := n0_; have HB := n1_; clear n0_ n1_; (try clear hb); (try clear hb2); (try clear hk); (try clear hi)) | ((with_reducible refine gate_dst (N := 12) rfl ?_); refine Kd.R_lit (Kd.int .i64) _ 3 ?hg (N := 12) ?hd (xs := ([] : List Int)) (inner := []) (ok := fun _ => True) (okp := fun _ => True) ?hr ?hp (fun _ hk => hk) trivial (zV _ _) (zT _) (by simp) ?_; (case hd => rfl); (case hg => rfl); (case hr => first | (go_simp; done) | (go_simp; rfl)); (case hp => exact (Reps.none _ _)); intro v612 w69 ho70 hb hg_ hnew_; clear hg_ hnew_; (first | rw [← Ny611.out] at ho70 | (simp only [Int.reduceToNat] at ho70; rw [← Ny611.out] at ho70)); have n0_ := yA (Kd.R_lower ho70 (yX (by with_reducible repeat first | exact HB.out | apply yO | apply yN | apply yP | refine yQ ?_ GE609.out))); have n1_ := yA (yU (mK BK609.out) hb); have n2_ := yA (zD (by with_reducible repeat first | exact HB.out | apply yO | apply yN | apply yP | refine yQ ?_ GE609.out) hb); clear BK609; clear HB; have HO613 := n0_; have BK609 := n1_; have HB := n2_; clear n0_ n1_ n2_; clear hb ho70))
  go_ret2
  exact ⟨_, by first | rfl | (simp [errW_none, errW_some] <;> rfl) | (simp [*, errW_none, errW_some] <;> rfl), by (with_reducible repeat (first | apply yB | apply yC | apply yD)); exact HO613.out, by repeat (first | (with_reducible first | exact HB.out | apply yO | apply yN | apply yP | refine yQ ?_ GE609.out) | exact HB.out)⟩

end Go.Proofs.Ytgopcliohchkmaa.Q
