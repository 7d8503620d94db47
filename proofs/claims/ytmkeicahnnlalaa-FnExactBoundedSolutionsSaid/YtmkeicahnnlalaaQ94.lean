-- written by a program of this session
-- squeezed
-- compact
-- shrunk
import Derived.Test.YtmkeicahnnlalaaQ0
import Derived.Test.YtmkeicahnnlalaaQ91
import Derived.Test.YtmkeicahnnlalaaQ93
namespace Go.Proofs.Ytmkeicahnnlalaa.Q
open Go.RowKit Go.Proofs.YtmkeicahnnlalaaW.PrintWords Go.Proofs.YtmkeicahnnlalaaW.PrintLast Go.Proofs.YtmkeicahnnlalaaW.PrintMore
set_option linter.unusedVariables false
set_option linter.unusedSimpArgs false

/-! ### impl_Sequence_term: function 123 -/
def impl_Sequence_term.f (k : Nat) (a0_0 : Int) (l0_1 : List (List Int)) (l0_2 : List Int) (a1 : Int) : Option (Int) := (impl_digits.f k a1 a0_0).bind fun t1072 => ((impl_Sequence_after.f k a0_0 l0_1 l0_2 t1072).bind fun t1075 => (if 0 ≤ t1075 then (if t1075 < (l0_2.length : Int) then (some (rd l0_2 t1075)) else (none)) else (none)))
theorem impl_Sequence_term.mono : ∀ a0 a1 a2 a3 k, LeO (impl_Sequence_term.f k a0 a1 a2 a3) (impl_Sequence_term.f (k + 1) a0 a1 a2 a3) := by
 intro a0 a1 a2 a3 k
 unfold impl_Sequence_term.f
 repeat' (with_reducible first | exact impl_Sequence_after.mono _ _ _ _ _ | exact impl_digits.mono _ _ _ | exact LeO.refl _ | exact LeO.none _ | refine LeO.ite ?_ ?_ | refine LeO.bind ?_ fun _ => ?_)
def impl_Sequence_term.T1 : Bool × List (List Nat × List Nat) := (true, [([], []), ([0], [0]), ([], []), ([], []), ([], []), ([4], [4]), ([3, 5], [3, 5]), ([2, 6, 6], [2, 6]), ([1, 7], [1, 7]), ([8], [8]), ([9, 7, 0, 1, 2, 3, 4, 5, 6, 7, 8, 9], [9])])
def impl_Sequence_term.B1 : List Nat := [0, 1, 0, 0, 0, 16, 56, 124, 255, 511, 1023]
theorem impl_Sequence_term.tab1 : rtab .any (opsOf Try.f123 1) = impl_Sequence_term.T1 := by kernel_rfl
theorem impl_Sequence_term.bits1 : waitsOk impl_Sequence_term.T1.2 impl_Sequence_term.B1 = true := by kernel_rfl
set_option maxHeartbeats 8000000 in
set_option maxRecDepth 100000 in
theorem impl_Sequence_term.calls (k : Nat) (a0_0 : Int) (A0_1 : Option Addr) (c0_1 : Nat) (l0_1 : List (List Int)) (A0_2 : Option Addr) (c0_2 : Nat) (l0_2 : List Int) (a1 : Int) (r : Int) (w : World) (hr0_1 : Kd.C (Kd.slice 3 (Kd.int .i64)) w A0_1 l0_1.length l0_1) (hc0_1 : l0_1.length ≤ c0_1) (hr0_2 : Kd.C (Kd.int .i64) w A0_2 l0_2.length l0_2) (hc0_2 : l0_2.length ≤ c0_2) (h : impl_Sequence_term.f k a0_0 l0_1 l0_2 a1 = some r) :
  Calls Try.prog 123 #[.agg #[.int .i64 a0_0, .slice A0_1 l0_1.length c0_1, .slice A0_2 l0_2.length c0_2], .int .i64 a1] w fun e w' => e = .returned (.int .i64 r) ∧ Below w.heap.size w w' := by
 have hu32 := Try.underlying32
 have HR0_1 := yA hr0_1
 have HC0_1 := yA hc0_1
 clear hr0_1 hc0_1
 have HR0_2 := yA hr0_2
 have HC0_2 := yA hc0_2
 clear hr0_2 hc0_2
 have HB := yA (zV w.heap.size w)
 have H : ((impl_digits.f k a1 a0_0).bind fun t1072 => ((impl_Sequence_after.f k a0_0 l0_1 l0_2 t1072).bind fun t1075 => (if 0 ≤ t1075 then (if t1075 < (l0_2.length : Int) then (some (rd l0_2 t1075)) else (none)) else (none)))) = some r := h
 clear h
 obtain ⟨t1072, A3, H⟩ := bE H
 obtain ⟨t1075, A4, H⟩ := bE H
 obtain ⟨c5, H⟩ := iP H
 have c5b0 : decide (0 ≤ t1075) = true := zH c5
 clear c5
 obtain ⟨c6, H⟩ := iP H
 have c6b0 : decide (t1075 < (l0_2.length : Int)) = true := zH c6
 clear c6
 obtain rfl := zU H
 go_enter Try.func123, Try.ntmps123
 try go_wp2_with (first | ((with_reducible refine gate_dst (N := 2) rfl ?_); refine box_event ?hg (N := 2) ?hd (cs := #[.int .i64 a0_0, .slice A0_1 l0_1.length c0_1, .slice A0_2 l0_2.length c0_2]) (t := 32) ?hr ?_; (case hd => rfl); (case hg => rfl); (case hr => first | (go_simp; done) | (go_simp; rfl)); intro gb1071 hg w7 hbox hb; have BK1071 := yA (hbox); have GW1071 := yA ((by rw [hg]; exact (yX (mB HB.out)) : w.heap.size ≤ gb1071)); have GE1071 := yA ((by rw [hg]; exact (yX (mB HB.out)) : w.heap.size ≤ gb1071)); replace HB := yA (zD (mB HB.out) hb); clear hb hbox hg))
 replace BK1071 := yA (yT BK1071.out)
 replace HB := yA (yP HB.out)
 have p1076 : 0 ≤ (t1075 : Int) := zG (by assumption)
 have q1076 : t1075 < (l0_2.length : Int) := zG (by assumption)
 obtain ⟨ad1076, e1076, hx1076_0⟩ := Kd.at_int HR0_2.out t1075 p1076 q1076
 have hw1076_0 := hx1076_0
 cases e1076
 try replace hx1076_0 := (HB.out.cell (zE w _ hx1076_0)).trans hx1076_0
 replace p1076 := eq_true p1076
 replace q1076 := eq_true q1076
 refine start_ (n := 11) (S := fun w' => w'.cell? ⟨gb1071, 0, none⟩ = some (.int .i64 a0_0) ∧ w'.cell? ⟨gb1071, 1, none⟩ = some (.slice A0_1 l0_1.length c0_1) ∧ w'.cell? ⟨gb1071, 2, none⟩ = some (.slice (some ad1076) l0_2.length c0_2) ∧ w'.cell? (ad1076.add (t1075).toNat) = some (.int .i64 (rd l0_2 t1075))) (ds := []) #[false, false, false, false, false, false, false, false, false, false, false] (by kernel_rfl) rfl rfl ⟨(yV BK1071.out 0).trans rfl, (yV BK1071.out 1).trans rfl, (yV BK1071.out 2).trans rfl, ((HB.out.cell (zE w _ hw1076_0)).trans hw1076_0)⟩ (fun hHeld => ?_); refine with_tabW impl_Sequence_term.tab1 impl_Sequence_term.bits1 (fun HT_ HW_ => ?_)
 generalize w7.drew = w8 at BK1071 HB hx1076_0 hHeld ⊢
 refine pure_ (i := 0) (N := some 5) (v := ?_) (a' := ?_) #[true, false, false, false, false, false, false, false, false, false, false] rfl rfl (any_of HT_.out (by kernel_rfl)) (fun _ _ _ h => h) (Or.inl ⟨by rfl, ?_⟩) ?_ ?_
 rotate_left
 ·intro w'
  go_simp
  with_reducible rfl
 rotate_left
 ·simp only [Act.put, zA, zB, zC, i64_w, i32_w]
  rfl
 refine pure_ (i := 3) (N := some 8) (v := ?_) (a' := ?_) #[true, false, false, true, false, false, false, false, false, false, false] rfl rfl (any_of HT_.out (by kernel_rfl)) (fun _ _ _ h => h) (Or.inl ⟨by rfl, ?_⟩) ?_ ?_
 rotate_left
 ·intro w'
  go_simp
  with_reducible rfl
 rotate_left
 ·simp only [Act.put, zA, zB, zC, i64_w, i32_w]
  rfl
 refine pure_ (i := 4) (N := some 9) (v := ?_) (a' := ?_) #[true, false, false, true, true, false, false, false, false, false, false] rfl rfl (any_of HT_.out (by kernel_rfl)) (fun _ _ _ h => h) (Or.inl ⟨by rfl, ?_⟩) ?_ ?_
 rotate_left
 ·intro w'
  go_simp
  with_reducible rfl
 rotate_left
 ·simp only [Act.put, zA, zB, zC, i64_w, i32_w]
  rfl
 refine take_ (i := 1) (N := some 6) (v := ?_) (a' := ?_) #[true, true, false, true, true, false, false, false, false, false, false] rfl rfl (take_ofW HT_.out HW_.out (by kernel_rfl)) (fun _ _ _ h => h) (Or.inl ⟨by rfl, ?_⟩) hHeld ?_ ?_
 rotate_left
 ·rintro w' ⟨s0, s1, s2, s3⟩
  go_simp
  with_reducible rfl
 rotate_left
 ·simp only [Act.put, zA, zB, zC, i64_w, i32_w]
  rfl
 refine take_ (i := 2) (N := some 7) (v := ?_) (a' := ?_) #[true, true, true, true, true, false, false, false, false, false, false] rfl rfl (take_ofW HT_.out HW_.out (by kernel_rfl)) (fun _ _ _ h => h) (Or.inl ⟨by rfl, ?_⟩) hHeld ?_ ?_
 rotate_left
 ·rintro w' ⟨s0, s1, s2, s3⟩
  go_simp
  with_reducible rfl
 rotate_left
 ·simp only [Act.put, zA, zB, zC, i64_w, i32_w]
  rfl
 refine take_ (i := 5) (N := some 10) (v := ?_) (a' := ?_) #[true, true, true, true, true, true, false, false, false, false, false] rfl rfl (take_ofW HT_.out HW_.out (by kernel_rfl)) (fun _ _ _ h => h) (Or.inl ⟨by rfl, ?_⟩) hHeld ?_ ?_
 rotate_left
 ·rintro w' ⟨s0, s1, s2, s3⟩
  go_simp
  with_reducible rfl
 rotate_left
 ·simp only [Act.put, zA, zB, zC, i64_w, i32_w]
  rfl
 refine one_ (i := 6) (N := some 11) #[true, true, true, true, true, true, true, false, false, false, false] rfl rfl (one_of HT_.out (by kernel_rfl)) (by decide) (fun K hK => ?_)
 refine goes_ Try.func133 (by kernel_rfl) rfl #[.int .i64 a1, .int .i64 a0_0] (by rfl) rfl rfl (by (try simp only [zI, zJ, zK]); first | done | rfl | (simp only [zL, zM]; rfl)) ?_
 with_reducible refine (impl_digits.calls k a1 a0_0 t1072 _ A3.out).mono ?_
 rintro e w9 ⟨v1073, rfl, ho0, hb⟩
 refine ⟨_, rfl, ?_⟩
 have HO1074 := yA (Kd.R_lower ho0 (yX (by with_reducible repeat first | exact HB.out | apply yO | apply yN | apply yP | refine yQ ?_ GE1071.out)))
 replace BK1071 := yA (yU (mK BK1071.out) hb)
 replace HB := yA (zD (by with_reducible repeat first | exact HB.out | apply yO | apply yN | apply yP | refine yQ ?_ GE1071.out) hb)
 (try clear hb)
 (try clear hb2)
 (try clear hk)
 (try clear hi)
 (try clear ho0)
 obtain ⟨Ao10, co10, eo10⟩ := Kd.R_slice HO1074.out
 (first | subst eo10 | (injection eo10 with f1_ f2_ f3_; have f4_ := f1_.symm; have f5_ := f3_.symm; clear f1_ f2_ f3_; subst f4_; subst f5_))
 refine hK.out _ _ ⟨(yV BK1071.out 0).trans rfl, (yV BK1071.out 1).trans rfl, (yV BK1071.out 2).trans rfl, ((HB.out.cell (zE w _ hw1076_0)).trans hw1076_0)⟩ (fun hHeld => ?_)
 clear hK K
 refine norm_ (a' := ?_) ?_ ?_
 rotate_left
 ·show Act.put _ (some 11) _ = _
  simp only [Act.put, zA, zB, zC, i64_w, i32_w]
  rfl
 refine one_ (i := 7) (N := some 12) #[true, true, true, true, true, true, true, true, false, false, false] rfl rfl (one_of HT_.out (by kernel_rfl)) (by decide) (fun K hK => ?_)
 refine goes_ Try.func132 (by kernel_rfl) rfl #[.agg #[.int .i64 a0_0, .slice A0_1 l0_1.length c0_1, .slice (some ad1076) l0_2.length c0_2], .slice Ao10 t1072.length co10] (by rfl) rfl rfl (by (try simp only [zI, zJ, zK]); first | done | rfl | (simp only [zL, zM]; rfl)) ?_
 with_reducible refine (impl_Sequence_after.calls k a0_0 _ _ l0_1 _ _ l0_2 _ _ t1072 t1075 _ ?side1 ?side2 ?side3 ?side4 ?side5 ?side6 A4.out).mono ?_
 (case side1 => exact mC (yM HR0_1.out HB.out))
 (case side2 => exact HC0_1.out)
 (case side3 => exact mC (yM HR0_2.out HB.out))
 (case side4 => exact HC0_2.out)
 (case side5 => exact mC ((zN HO1074.out).2.2))
 (case side6 => exact (zN HO1074.out).2.1)
 rintro e w11 ⟨rfl, hb⟩
 refine ⟨_, rfl, ?_⟩
 replace HO1074 := yA (yK (mR HO1074.out) hb)
 replace BK1071 := yA (yU (mK BK1071.out) hb)
 replace HB := yA (zD (by with_reducible repeat first | exact HB.out | apply yO | apply yN | apply yP | refine yQ ?_ GE1071.out) hb)
 (try clear hb)
 (try clear hb2)
 (try clear hk)
 (try clear hi)
 refine hK.out _ _ ⟨(yV BK1071.out 0).trans rfl, (yV BK1071.out 1).trans rfl, (yV BK1071.out 2).trans rfl, ((HB.out.cell (zE w _ hw1076_0)).trans hw1076_0)⟩ (fun hHeld => ?_)
 clear hK K
 refine norm_ (a' := ?_) ?_ ?_
 rotate_left
 ·show Act.put _ (some 12) _ = _
  simp only [Act.put, zA, zB, zC, i64_w, i32_w]
  rfl
 refine pure_ (i := 8) (N := some 13) (v := ?_) (a' := ?_) #[true, true, true, true, true, true, true, true, true, false, false] rfl rfl (any_of HT_.out (by kernel_rfl)) (fun _ _ _ h => h) (Or.inl ⟨by rfl, ?_⟩) ?_ ?_
 rotate_left
 ·intro w'
  go_simp
  with_reducible rfl
 rotate_left
 ·simp only [Act.put, zA, zB, zC, i64_w, i32_w]
  rfl
 refine take_ (i := 9) (N := some 14) (v := ?_) (a' := ?_) #[true, true, true, true, true, true, true, true, true, true, false] rfl rfl (take_ofW HT_.out HW_.out (by kernel_rfl)) (fun _ _ _ h => h) (Or.inl ⟨by rfl, ?_⟩) hHeld ?_ ?_
 rotate_left
 ·rintro w' ⟨s0, s1, s2, s3⟩
  go_simp
  with_reducible rfl
 rotate_left
 ·simp only [Act.put, zA, zB, zC, i64_w, i32_w]
  rfl
 refine pure_ (i := 10) (N := some 4) (v := ?_) (a' := ?_) #[true, true, true, true, true, true, true, true, true, true, true] rfl rfl (any_of HT_.out (by kernel_rfl)) (fun _ _ _ h => h) (Or.inl ⟨by rfl, ?_⟩) ?_ ?_
 rotate_left
 ·intro w'
  go_simp
  with_reducible rfl
 rotate_left
 ·simp only [Act.put, zA, zB, zC, i64_w, i32_w]
  rfl
 refine done_ (done_of HT_.out (by kernel_rfl)) ?_
 try go_wp2
 go_ret
 exact ⟨by first | rfl | (simp [errW_none, errW_some] <;> rfl) | (simp [*, errW_none, errW_some] <;> rfl), by repeat (first | (with_reducible first | exact HB.out | apply yO | apply yN | apply yP | refine yQ ?_ GE1071.out) | exact HB.out)⟩

end Go.Proofs.Ytmkeicahnnlalaa.Q
