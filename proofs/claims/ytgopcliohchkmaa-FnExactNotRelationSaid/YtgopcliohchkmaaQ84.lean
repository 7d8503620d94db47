-- written by a program of this session (a turned copy of the kit's print) out of the translation
-- squeezed
-- compact
import Derived.Test.YtgopcliohchkmaaQ0
namespace Go.Proofs.Ytgopcliohchkmaa.Q
open Go.RowKit Go.Proofs.YtgopcliohchkmaaW.PrintWords Go.Proofs.YtgopcliohchkmaaW.PrintLast Go.Proofs.YtgopcliohchkmaaW.PrintMore
attribute [local go_sem] max2_int min2_int max_two min_two max_three min_three max_four min_four   -- for this text's walks alone
set_option linter.unusedVariables false
set_option linter.unusedSimpArgs false

/-! ### spec_l13Copy: function 86 -/
def spec_l13Copy.l0 : Nat → Int → Int → Int → List (List Int) → List Bool → Int → Int → List (List Int) → List Bool → Option (Int × Int × (List (List Int)) × List Bool)
 | 0, _, _, _, _, _, _, _, _, _ => none
 | k + 1, x4, x993000, x993001, x993002, x993003, x1001000, x1001001, x1001002, x1001003 => if x4 < (x993002.length : Int) then ((some (([] : List Int) : List Int)).bind fun y1001 => (if 0 ≤ x4 then (if y1001.length + (rd_L1 x993002 x4).length < 17592186044416 then (if x1001002.length < 5864062014805 then (spec_l13Copy.l0 k (wrap64 (x4 + 1)) x993000 x993001 x993002 x993003 x1001000 x1001001 (x1001002 ++ [(y1001 ++ (rd_L1 x993002 x4))]) x1001003) else (none)) else (none)) else (none))) else (some (x1001000, x1001001, x1001002, x1001003))
def spec_l13Copy.f (k : Nat) (a0_0 : Int) (a0_1 : Int) (l0_2 : List (List Int)) (l0_3 : List Bool) : Option (Int × Int × (List (List Int)) × List Bool) := (some (([] : List Bool) : List Bool)).bind fun y994 => (if y994.length + l0_3.length < 140737488355328 then (spec_l13Copy.l0 k 0 a0_0 a0_1 l0_2 l0_3 a0_0 a0_1 ([] : List (List Int)) (y994 ++ l0_3)) else (none))
theorem spec_l13Copy.mono_l : ∀ k, (∀ y0 y1 y2 y3 y4 y5 y6 y7 y8, LeO (spec_l13Copy.l0 k y0 y1 y2 y3 y4 y5 y6 y7 y8) (spec_l13Copy.l0 (k + 1) y0 y1 y2 y3 y4 y5 y6 y7 y8))
 | 0 => fun _ _ _ _ _ _ _ _ _ r h => by simp [spec_l13Copy.l0] at h
 | k + 1 => by
  have ih0 := spec_l13Copy.mono_l k
  ·intro y0 y1 y2 y3 y4 y5 y6 y7 y8
   unfold spec_l13Copy.l0
   repeat' first
   | (with_reducible exact ih0 _ _ _ _ _ _ _ _ _)
   | (with_reducible exact LeO.refl _)
   | (with_reducible exact LeO.none _)
   | (with_reducible refine LeO.ite ?_ ?_)
   | (with_reducible refine LeO.bind ?_ (fun _ => ?_))
   | exact ih0 _ _ _ _ _ _ _ _ _
   | exact LeO.none _
   | refine LeO.ite ?_ ?_
   | refine LeO.bind ?_ (fun _ => ?_)
theorem spec_l13Copy.mono : ∀ a0 a1 a2 a3 k, LeO (spec_l13Copy.f k a0 a1 a2 a3) (spec_l13Copy.f (k + 1) a0 a1 a2 a3) := by
 intro a0 a1 a2 a3 k
 have ih0 := spec_l13Copy.mono_l k
 unfold spec_l13Copy.f
 repeat' first
   | (with_reducible exact ih0 _ _ _ _ _ _ _ _ _)
   | (with_reducible exact LeO.refl _)
   | (with_reducible exact LeO.none _)
   | (with_reducible refine LeO.ite ?_ ?_)
   | (with_reducible refine LeO.bind ?_ (fun _ => ?_))
   | exact ih0 _ _ _ _ _ _ _ _ _
   | exact LeO.none _
   | refine LeO.ite ?_ ?_
   | refine LeO.bind ?_ (fun _ => ?_)
def spec_l13Copy.T1 : Bool × List (List Nat × List Nat) := (true, [([], []), ([0], [0]), ([], []), ([2], [2]), ([], []), ([], []), ([5], [5]), ([4, 6], [4, 6]), ([1, 3, 7], [1, 3, 7]), ([], []), ([9, 8, 7, 0, 1, 2, 3, 4, 5, 6, 7, 8, 9], [8, 9])])
def spec_l13Copy.B1 : List Nat := [0, 1, 0, 4, 0, 0, 32, 112, 255, 0, 1023]
theorem spec_l13Copy.tab1 : rtab .any (opsOf Try.f86 1) = spec_l13Copy.T1 := by kernel_rfl
theorem spec_l13Copy.bits1 : waitsOk spec_l13Copy.T1.2 spec_l13Copy.B1 = true := by kernel_rfl
def spec_l13Copy.T5 : Bool × List (List Nat × List Nat) := (true, [([], []), ([0], [0]), ([], []), ([], []), ([3], [3]), ([], []), ([4, 5], [4, 5]), ([6], [6]), ([2, 7], [2, 7]), ([8], [8]), ([1, 9, 8], [1, 9]), ([0, 1, 2, 3, 4, 5, 6, 7, 8, 9, 10], []), ([11, 10, 10, 0, 1, 2, 3, 4, 5, 6, 7, 8, 9, 10], [10, 11])])
def spec_l13Copy.B5 : List Nat := [0, 1, 0, 0, 8, 0, 56, 120, 252, 508, 1023, 2047, 4095]
theorem spec_l13Copy.tab5 : rtab .any (opsOf Try.f86 5) = spec_l13Copy.T5 := by kernel_rfl
theorem spec_l13Copy.bits5 : waitsOk spec_l13Copy.T5.2 spec_l13Copy.B5 = true := by kernel_rfl
set_option maxHeartbeats 8000000 in
set_option maxRecDepth 100000 in
theorem spec_l13Copy.calls (k : Nat) (a0_0 : Int) (a0_1 : Int) (A0_2 : Option Addr) (c0_2 : Nat) (l0_2 : List (List Int)) (A0_3 : Option Addr) (c0_3 : Nat) (l0_3 : List Bool) (r1 : Int) (r2 : Int) (r3 : List (List Int)) (r4 : List Bool) (w : World) (hr0_2 : Kd.C (Kd.slice 3 (Kd.int .i64)) w A0_2 l0_2.length l0_2) (hc0_2 : l0_2.length ≤ c0_2) (hr0_3 : Kd.C Kd.bool w A0_3 l0_3.length l0_3) (hc0_3 : l0_3.length ≤ c0_3) (h : spec_l13Copy.f k a0_0 a0_1 l0_2 l0_3 = some (r1, r2, r3, r4)) :
  Calls Try.prog 86 #[.agg #[.int .i64 a0_0, .int .i64 a0_1, .slice A0_2 l0_2.length c0_2, .slice A0_3 l0_3.length c0_3]] w fun e w' => ∃ v2_ v3_ : Value, e = .returned (.agg #[.int .i64 r1, .int .i64 r2, v2_, v3_]) ∧ Kd.S (Kd.slice 3 (Kd.int .i64)) 38 w' w.heap.size (fun _ => True) v2_ r3 ∧ Kd.R Kd.bool 4 w' w.heap.size (fun _ => True) v3_ r4 ∧ Below w.heap.size w w' := by
 have hu25 := Try.underlying25
 have HR0_2 := yA hr0_2
 have HC0_2 := yA hc0_2
 clear hr0_2 hc0_2
 have HR0_3 := yA hr0_3
 have HC0_3 := yA hc0_3
 clear hr0_3 hc0_3
 have HB := yA (zV w.heap.size w)
 have H : ((some (([] : List Bool) : List Bool)).bind fun y994 => (if y994.length + l0_3.length < 140737488355328 then (spec_l13Copy.l0 k 0 a0_0 a0_1 l0_2 l0_3 a0_0 a0_1 ([] : List (List Int)) (y994 ++ l0_3)) else (none))) = some (r1, r2, r3, r4) := h
 clear h
 obtain ⟨y994, hy994⟩ : ∃ y_ : List Bool, y_ = (([] : List Bool)) := ⟨_, rfl⟩
 replace H : (if y994.length + l0_3.length < 140737488355328 then (spec_l13Copy.l0 k 0 a0_0 a0_1 l0_2 l0_3 a0_0 a0_1 ([] : List (List Int)) (y994 ++ l0_3)) else (none)) = some (r1, r2, r3, r4) := by first | (rw [hy994]; with_reducible exact H) | (have H2_ := (Option.bind_some _ _).symm.trans H; rw [hy994]; with_reducible exact H2_) | (have H2_ := (Option.bind_some _ _).symm.trans H; with_reducible exact H2_) | with_reducible exact H | (rw [hy994]; exact H) | exact H
 have Ny994 := yA hy994
 clear hy994
 by_cases c2 : y994.length + l0_3.length < 140737488355328
 ·rw [if_pos c2] at H
  have LMc2 := yA c2
  clear c2
  obtain ⟨y997, hy997⟩ : ∃ y_ : List Bool, y_ = (y994 ++ l0_3) := ⟨_, rfl⟩
  replace H : (spec_l13Copy.l0 k 0 a0_0 a0_1 l0_2 l0_3 a0_0 a0_1 ([] : List (List Int)) y997) = some (r1, r2, r3, r4) := by first | (rw [hy997]; with_reducible exact H) | (have H2_ := (Option.bind_some _ _).symm.trans H; rw [hy997]; with_reducible exact H2_) | (have H2_ := (Option.bind_some _ _).symm.trans H; with_reducible exact H2_) | with_reducible exact H | (rw [hy997]; exact H) | exact H
  have Ny997 := yA hy997
  clear hy997
  have H' := yA H
  clear H
  go_enter Try.func86, Try.ntmps86
  try go_wp2_with (first | ((with_reducible refine gate_dst (N := 1) rfl ?_); refine box_event ?hg (N := 1) ?hd (cs := #[.int .i64 a0_0, .int .i64 a0_1, .slice A0_2 l0_2.length c0_2, .slice A0_3 l0_3.length c0_3]) (t := 25) ?hr ?_; (case hd => rfl); (case hg => rfl); (case hr => first | (go_simp; done) | (go_simp; rfl)); intro gb992 hg w3 hbox hb; have n0_ := yA (zD (mB HB.out) hb); have n1_ := yA (hbox); have n2_ := yA ((by rw [hg]; exact (yX (mB HB.out)) : w.heap.size ≤ gb992)); have n3_ := yA ((by rw [hg]; exact (yX (mB HB.out)) : w.heap.size ≤ gb992)); clear HB; have HB := n0_; have BK992 := n1_; have GW992 := n2_; have GE992 := n3_; clear n0_ n1_ n2_ n3_; clear hb hbox hg) | ((with_reducible refine gate_dst (N := 2) rfl ?_); refine box_event ?hg (N := 2) ?hd (cs := #[.int .i64 0, .int .i64 0, .slice none 0 0, .slice none 0 0]) (t := 25) ?hr ?_; (case hd => rfl); (case hg => rfl); (case hr => first | (go_simp; done) | (go_simp; rfl)); intro gb993 hg w4 hbox hb; have n0_ := yA (yU (mK BK992.out) hb); have n1_ := yA (zD (by with_reducible repeat first | exact HB.out | apply yO | apply yN | apply yP | refine yQ ?_ GE992.out) hb); have n2_ := yA (hbox); have n3_ := yA ((by rw [hg]; exact (yX (by with_reducible repeat first | exact HB.out | apply yO | apply yN | apply yP | refine yQ ?_ GE992.out)) : w.heap.size ≤ gb993)); have n4_ := yA ((by rw [hg]; exact (yX (by with_reducible repeat first | exact HB.out | apply yO | apply yN | apply yP | refine yQ ?_ GE992.out)) : w.heap.size ≤ gb993)); have n5_ := yA ((by rw [hg]; exact Nat.ne_of_lt (zX (mK BK992.out)) : gb992 ≠ gb993)); have n6_ := yA ((by rw [hg]; exact Nat.ne_of_gt (zX (mK BK992.out)) : gb993 ≠ gb992)); clear BK992; clear HB; have BK992 := n0_; have HB := n1_; have BK993 := n2_; have GW993 := n3_; have GE993 := n4_; have NB992_993 := n5_; have NB993_992 := n6_; clear n0_ n1_ n2_ n3_ n4_ n5_ n6_; clear hb hbox hg))
  have n0_ := yA (yT BK992.out)
  have n1_ := yA (yT BK993.out)
  have n2_ := yA (yP HB.out)
  clear BK992
  clear BK993
  clear HB
  have BK992 := n0_
  have BK993 := n1_
  have HB := n2_
  clear n0_ n1_ n2_
  refine start_ (n := 11) (S := fun w' => w'.cell? ⟨gb992, 0, none⟩ = some (.int .i64 a0_0) ∧ w'.cell? ⟨gb992, 1, none⟩ = some (.int .i64 a0_1) ∧ w'.cell? ⟨gb992, 2, none⟩ = some (.slice A0_2 l0_2.length c0_2) ∧ w'.cell? ⟨gb992, 3, none⟩ = some (.slice A0_3 l0_3.length c0_3)) (ds := []) #[false, false, false, false, false, false, false, false, false, false, false] (by kernel_rfl) rfl rfl ⟨(yV BK992.out 0).trans rfl, (yV BK992.out 1).trans rfl, (yV BK992.out 2).trans rfl, (yV BK992.out 3).trans rfl⟩ (fun hHeld => ?_); refine with_tabW spec_l13Copy.tab1 spec_l13Copy.bits1 (fun HT_ HW_ => ?_)
  generalize w4.drew = w5 at BK992 BK993 HB hHeld ⊢
  refine pure_ (i := 0) (N := some 5) (v := ?_) (a' := ?_) #[true, false, false, false, false, false, false, false, false, false, false] rfl rfl (any_of HT_.out (by kernel_rfl)) (fun _ _ _ h => h) (Or.inl ⟨by rfl, ?_⟩) ?_ ?_
  rotate_left
  ·intro w'
   go_simp
   with_reducible rfl
  rotate_left
  ·simp only [Act.put, zA, zB, zC, i64_w, i32_w]
   rfl
  refine pure_ (i := 2) (N := some 7) (v := ?_) (a' := ?_) #[true, false, true, false, false, false, false, false, false, false, false] rfl rfl (any_of HT_.out (by kernel_rfl)) (fun _ _ _ h => h) (Or.inl ⟨by rfl, ?_⟩) ?_ ?_
  rotate_left
  ·intro w'
   go_simp
   with_reducible rfl
  rotate_left
  ·simp only [Act.put, zA, zB, zC, i64_w, i32_w]
   rfl
  refine pure_ (i := 5) (N := some 10) (v := ?_) (a' := ?_) #[true, false, true, false, false, true, false, false, false, false, false] rfl rfl (any_of HT_.out (by kernel_rfl)) (fun _ _ _ h => h) (Or.inl ⟨by rfl, ?_⟩) ?_ ?_
  rotate_left
  ·intro w'
   go_simp
   with_reducible rfl
  rotate_left
  ·simp only [Act.put, zA, zB, zC, i64_w, i32_w]
   rfl
  refine take_ (i := 1) (N := some 6) (v := ?_) (a' := ?_) #[true, true, true, false, false, true, false, false, false, false, false] rfl rfl (take_ofW HT_.out HW_.out (by kernel_rfl)) (fun _ _ _ h => h) (Or.inl ⟨by rfl, ?_⟩) hHeld ?_ ?_
  rotate_left
  ·rintro w' ⟨s0, s1, s2, s3⟩
   go_simp
   with_reducible rfl
  rotate_left
  ·simp only [Act.put, zA, zB, zC, i64_w, i32_w]
   rfl
  refine take_ (i := 3) (N := some 8) (v := ?_) (a' := ?_) #[true, true, true, true, false, true, false, false, false, false, false] rfl rfl (take_ofW HT_.out HW_.out (by kernel_rfl)) (fun _ _ _ h => h) (Or.inl ⟨by rfl, ?_⟩) hHeld ?_ ?_
  rotate_left
  ·rintro w' ⟨s0, s1, s2, s3⟩
   go_simp
   with_reducible rfl
  rotate_left
  ·simp only [Act.put, zA, zB, zC, i64_w, i32_w]
   rfl
  refine take_ (i := 6) (N := some 11) (v := ?_) (a' := ?_) #[true, true, true, true, false, true, true, false, false, false, false] rfl rfl (take_ofW HT_.out HW_.out (by kernel_rfl)) (fun _ _ _ h => h) (Or.inl ⟨by rfl, ?_⟩) hHeld ?_ ?_
  rotate_left
  ·rintro w' ⟨s0, s1, s2, s3⟩
   go_simp
   with_reducible rfl
  rotate_left
  ·simp only [Act.put, zA, zB, zC, i64_w, i32_w]
   rfl
  refine join_ (σ := Value × Value × Nat) 1 #[true, true, true, true, true, true, true, true, true, true, false] (fun s_ => [(9, s_.1), (12, s_.2.1), (3, .pointer (some ⟨s_.2.2, 0, none⟩)), (13, .agg #[.int .i64 a0_0, .int .i64 a0_1, .slice none 0 0, s_.2.1])]) (fun s_ w' => (w'.cell? ⟨gb992, 0, none⟩ = some (.int .i64 a0_0) ∧ w'.cell? ⟨gb992, 1, none⟩ = some (.int .i64 a0_1) ∧ w'.cell? ⟨gb992, 2, none⟩ = some (.slice A0_2 l0_2.length c0_2) ∧ w'.cell? ⟨gb992, 3, none⟩ = some (.slice A0_3 l0_3.length c0_3)) ∧ (Kd.R Kd.bool 4 w' w.heap.size (fun _ => True) s_.2.1 y997) ∧ (w'.heap[s_.2.2]? = some (.cells #[.int .i64 0, .int .i64 0, .slice none 0 0, .slice none 0 0] 25 (0, 0))) ∧ (w'.heap[gb992]? = some (.cells #[.int .i64 a0_0, .int .i64 a0_1, .slice A0_2 l0_2.length c0_2, .slice A0_3 l0_3.length c0_3] 25 (0, 0))) ∧ (w'.heap[gb993]? = some (.cells #[.int .i64 0, .int .i64 0, .slice none 0 0, .slice none 0 0] 25 (0, 0))) ∧ (w.heap.size ≤ s_.2.2) ∧ (w.heap.size ≤ s_.2.2) ∧ (gb992 ≠ s_.2.2) ∧ (s_.2.2 ≠ gb992) ∧ (gb993 ≠ s_.2.2) ∧ (s_.2.2 ≠ gb993) ∧ (Below w.heap.size w w')) ?_ ?_
  rotate_left
  ·intro hCont
   refine two_ (i := 4) (j := 9) (Ni := some 9) (Nj := some 3) #[true, true, true, true, true, true, true, false, false, false, false] #[true, true, true, true, false, true, true, false, false, true, false] rfl rfl rfl rfl (two_of HT_.out (by kernel_rfl)) (by decide) (by decide) (fun K hK => ?_) (fun K hK => ?_)
   ·skip
    refine Kd.R_lit_step Kd.bool _ 4 ?hg (N := 9) ?hd (xs := ([] : List Bool)) (inner := []) (ok := fun _ => True) (okp := fun _ => True) ?hr ?hp (fun _ hk => hk) trivial (zV _ _) (zT _) (by simp) ?_; (case hd => rfl); (case hg => rfl); (case hr => first | (go_simp; done) | (go_simp; rfl)); (case hp => exact (Reps.none _ _))
    intro v995 w6 ho7 hb hg_ hnew_
    clear hg_ hnew_
    (first | rw [← Ny994.out] at ho7 | (simp only [Int.reduceToNat] at ho7; rw [← Ny994.out] at ho7))
    have n0_ := yA (Kd.R_lower ho7 (yX (by with_reducible repeat first | exact HB.out | apply yO | apply yN | apply yP | refine yQ ?_ GE992.out | refine yQ ?_ GE993.out)))
    have n1_ := yA (yU (mK BK992.out) hb)
    have n2_ := yA (yU (mK BK993.out) hb)
    have n3_ := yA (zD (by with_reducible repeat first | exact HB.out | apply yO | apply yN | apply yP | refine yQ ?_ GE992.out | refine yQ ?_ GE993.out) hb)
    clear BK992
    clear BK993
    clear HB
    have HO996 := n0_
    have BK992 := n1_
    have BK993 := n2_
    have HB := n3_
    clear n0_ n1_ n2_ n3_
    clear hb ho7
    refine hK.out _ _ ⟨(yV BK992.out 0).trans rfl, (yV BK992.out 1).trans rfl, (yV BK992.out 2).trans rfl, (yV BK992.out 3).trans rfl⟩ (fun hHeld => ?_)
    clear hK K
    refine norm_ (a' := ?_) ?_ ?_
    rotate_left
    ·show Act.put _ (some 9) _ = _
     simp only [Act.put, zA, zB, zC, i64_w, i32_w]
     rfl
    refine two_ (i := 7) (j := 9) (Ni := some 12) (Nj := some 3) #[true, true, true, true, true, true, true, true, false, false, false] #[true, true, true, true, true, true, true, false, false, true, false] rfl rfl rfl rfl (two_of HT_.out (by kernel_rfl)) (by decide) (by decide) (fun K hK => ?_) (fun K hK => ?_)
    ·skip
     refine Kd.R_append_rows_step Kd.bool (w0 := w) w.heap.size (by rfl) (.tmp 9) (.tmp 11) 23 4 (.bool false) 1 rfl Try.underlying23 info4 rfl (by decide) (by omega) v995 y994 l0_3 _ _ _ (fun _ => True) (fun _ => False) rfl rfl ?aO ?aR (fun _ _ h => h) (fun _ h => h.elim) ?aF ?aB ?aS ?aL ?_
     (case aR => repeat (first | exact (yM HR0_3.out HB.out) | (with_reducible refine yE ?_ _) | (with_reducible refine yF ?_ _) | (with_reducible refine yG ?_)))
     (case aB => exact (by with_reducible repeat first | exact HB.out | apply yO | apply yN | apply yP | refine yQ ?_ GE992.out | refine yQ ?_ GE993.out))
     (case aF => exact (fun _ _ => trivial))
     (case aO => exact (mR HO996.out))
     (case aS => exact (yX (by with_reducible repeat first | exact HB.out | apply yO | apply yN | apply yP | refine yQ ?_ GE992.out | refine yQ ?_ GE993.out)))
     (case aL => have := LMc2.out; omega)
     intro v998 w8 ho hb hg hat
     rw [← Ny997.out] at ho
     have n0_ := yA (blk_grown (g := gb992) (o := .cells #[.int .i64 a0_0, .int .i64 a0_1, .slice A0_2 l0_2.length c0_2, .slice A0_3 l0_3.length c0_3] 25 (0, 0)) (mK BK992.out) hg (zW HO996.out BK992.out (by decide)))
     have n1_ := yA (blk_grown (g := gb993) (o := .cells #[.int .i64 0, .int .i64 0, .slice none 0 0, .slice none 0 0] 25 (0, 0)) (mK BK993.out) hg (zW HO996.out BK993.out (by decide)))
     have n2_ := yA (hb)
     have n3_ := yA (ho)
     clear BK992
     clear BK993
     clear HB
     clear HO996
     have BK992 := n0_
     have BK993 := n1_
     have HB := n2_
     have HO999 := n3_
     clear n0_ n1_ n2_ n3_
     clear ho hb hg hat
     obtain ⟨Ao9, co9, eo9⟩ := Kd.R_slice HO999.out
     (first | subst eo9 | (injection eo9 with f1_ f2_ f3_; have f4_ := f1_.symm; have f5_ := f3_.symm; clear f1_ f2_ f3_; subst f4_; subst f5_))
     refine hK.out _ _ ⟨(yV BK992.out 0).trans rfl, (yV BK992.out 1).trans rfl, (yV BK992.out 2).trans rfl, (yV BK992.out 3).trans rfl⟩ (fun hHeld => ?_)
     clear hK K
     refine norm_ (a' := ?_) ?_ ?_
     rotate_left
     ·show Act.put _ (some 12) _ = _
      simp only [Act.put, zA, zB, zC, i64_w, i32_w]
      rfl
     refine pure_ (i := 8) (N := some 13) (v := ?_) (a' := ?_) #[true, true, true, true, true, true, true, true, true, false, false] rfl rfl (any_of HT_.out (by kernel_rfl)) (fun _ _ _ h => h) (Or.inl ⟨by rfl, ?_⟩) ?_ ?_
     rotate_left
     ·intro w'
      go_simp
      with_reducible rfl
     rotate_left
     ·simp only [Act.put, zA, zB, zC, i64_w, i32_w]
      rfl
     refine one_ (i := 9) (N := some 3) #[true, true, true, true, true, true, true, true, true, true, false] rfl rfl (one_of HT_.out (by kernel_rfl)) (by decide) (fun K hK => ?_)
     refine box_step ?hg (N := 3) ?hd (cs := #[.int .i64 0, .int .i64 0, .slice none 0 0, .slice none 0 0]) (t := 25) ?hr ?_; (case hd => rfl); (case hg => rfl); (case hr => first | (go_simp; done) | (go_simp; rfl))
     intro gb1000 hg w10 hbox hb
     have n0_ := yA (yK (mR HO999.out) hb)
     have n1_ := yA (yU (mK BK992.out) hb)
     have n2_ := yA (yU (mK BK993.out) hb)
     have n3_ := yA (zD (by with_reducible repeat first | exact HB.out | apply yO | apply yN | apply yP | refine yQ ?_ GE992.out | refine yQ ?_ GE993.out) hb)
     have n4_ := yA (hbox)
     have n5_ := yA ((by rw [hg]; exact (yX (by with_reducible repeat first | exact HB.out | apply yO | apply yN | apply yP | refine yQ ?_ GE992.out | refine yQ ?_ GE993.out)) : w.heap.size ≤ gb1000))
     have n6_ := yA ((by rw [hg]; exact (yX (by with_reducible repeat first | exact HB.out | apply yO | apply yN | apply yP | refine yQ ?_ GE992.out | refine yQ ?_ GE993.out)) : w.heap.size ≤ gb1000))
     have n7_ := yA ((by rw [hg]; exact Nat.ne_of_lt (zX (mK BK992.out)) : gb992 ≠ gb1000))
     have n8_ := yA ((by rw [hg]; exact Nat.ne_of_gt (zX (mK BK992.out)) : gb1000 ≠ gb992))
     have n9_ := yA ((by rw [hg]; exact Nat.ne_of_lt (zX (mK BK993.out)) : gb993 ≠ gb1000))
     have n10_ := yA ((by rw [hg]; exact Nat.ne_of_gt (zX (mK BK993.out)) : gb1000 ≠ gb993))
     clear HO999
     clear BK992
     clear BK993
     clear HB
     have HO999 := n0_
     have BK992 := n1_
     have BK993 := n2_
     have HB := n3_
     have BK1000 := n4_
     have GW1000 := n5_
     have GE1000 := n6_
     have NB992_1000 := n7_
     have NB1000_992 := n8_
     have NB993_1000 := n9_
     have NB1000_993 := n10_
     clear n0_ n1_ n2_ n3_ n4_ n5_ n6_ n7_ n8_ n9_ n10_
     clear hb hbox hg
     refine hK.out _ _ ⟨(yV BK992.out 0).trans rfl, (yV BK992.out 1).trans rfl, (yV BK992.out 2).trans rfl, (yV BK992.out 3).trans rfl⟩ (fun hHeld => ?_)
     clear hK K
     refine norm_ (a' := ?_) ?_ ?_
     rotate_left
     ·show Act.put _ (some 3) _ = _
      simp only [Act.put, zA, zB, zC, i64_w, i32_w]
      rfl
     exact norm_ (by simp only [putAll, Act.put, zA, zB, zC]) (hCont (v995, .slice Ao9 y997.length co9, gb1000) _ ⟨hHeld, (mR HO999.out), (mK BK1000.out), (mK BK992.out), (mK BK993.out), GW1000.out, GE1000.out, NB992_1000.out, NB1000_992.out, NB993_1000.out, NB1000_993.out, (by with_reducible repeat first | exact HB.out | apply yO | apply yN | apply yP | refine yQ ?_ GE992.out | refine yQ ?_ GE993.out | refine yQ ?_ GE1000.out)⟩)
    ·skip
     refine box_step ?hg (N := 3) ?hd (cs := #[.int .i64 0, .int .i64 0, .slice none 0 0, .slice none 0 0]) (t := 25) ?hr ?_; (case hd => rfl); (case hg => rfl); (case hr => first | (go_simp; done) | (go_simp; rfl))
     intro gb1000 hg w8 hbox hb
     have n0_ := yA (yK (mR HO996.out) hb)
     have n1_ := yA (yU (mK BK992.out) hb)
     have n2_ := yA (yU (mK BK993.out) hb)
     have n3_ := yA (zD (by with_reducible repeat first | exact HB.out | apply yO | apply yN | apply yP | refine yQ ?_ GE992.out | refine yQ ?_ GE993.out) hb)
     have n4_ := yA (hbox)
     have n5_ := yA ((by rw [hg]; exact (yX (by with_reducible repeat first | exact HB.out | apply yO | apply yN | apply yP | refine yQ ?_ GE992.out | refine yQ ?_ GE993.out)) : w.heap.size ≤ gb1000))
     have n6_ := yA ((by rw [hg]; exact (yX (by with_reducible repeat first | exact HB.out | apply yO | apply yN | apply yP | refine yQ ?_ GE992.out | refine yQ ?_ GE993.out)) : w.heap.size ≤ gb1000))
     have n7_ := yA ((by rw [hg]; exact Nat.ne_of_lt (zX (mK BK992.out)) : gb992 ≠ gb1000))
     have n8_ := yA ((by rw [hg]; exact Nat.ne_of_gt (zX (mK BK992.out)) : gb1000 ≠ gb992))
     have n9_ := yA ((by rw [hg]; exact Nat.ne_of_lt (zX (mK BK993.out)) : gb993 ≠ gb1000))
     have n10_ := yA ((by rw [hg]; exact Nat.ne_of_gt (zX (mK BK993.out)) : gb1000 ≠ gb993))
     clear HO996
     clear BK992
     clear BK993
     clear HB
     have HO996 := n0_
     have BK992 := n1_
     have BK993 := n2_
     have HB := n3_
     have BK1000 := n4_
     have GW1000 := n5_
     have GE1000 := n6_
     have NB992_1000 := n7_
     have NB1000_992 := n8_
     have NB993_1000 := n9_
     have NB1000_993 := n10_
     clear n0_ n1_ n2_ n3_ n4_ n5_ n6_ n7_ n8_ n9_ n10_
     clear hb hbox hg
     refine hK.out _ _ ⟨(yV BK992.out 0).trans rfl, (yV BK992.out 1).trans rfl, (yV BK992.out 2).trans rfl, (yV BK992.out 3).trans rfl⟩ (fun hHeld => ?_)
     clear hK K
     refine norm_ (a' := ?_) ?_ ?_
     rotate_left
     ·show Act.put _ (some 3) _ = _
      simp only [Act.put, zA, zB, zC, i64_w, i32_w]
      rfl
     refine one_ (i := 7) (N := some 12) #[true, true, true, true, true, true, true, true, false, true, false] rfl rfl (one_of HT_.out (by kernel_rfl)) (by decide) (fun K hK => ?_)
     refine Kd.R_append_rows_step Kd.bool (w0 := w) w.heap.size (by rfl) (.tmp 9) (.tmp 11) 23 4 (.bool false) 1 rfl Try.underlying23 info4 rfl (by decide) (by omega) v995 y994 l0_3 _ _ _ (fun _ => True) (fun _ => False) rfl rfl ?aO ?aR (fun _ _ h => h) (fun _ h => h.elim) ?aF ?aB ?aS ?aL ?_
     (case aR => repeat (first | exact (yM HR0_3.out HB.out) | (with_reducible refine yE ?_ _) | (with_reducible refine yF ?_ _) | (with_reducible refine yG ?_)))
     (case aB => exact (by with_reducible repeat first | exact HB.out | apply yO | apply yN | apply yP | refine yQ ?_ GE992.out | refine yQ ?_ GE993.out | refine yQ ?_ GE1000.out))
     (case aF => exact (fun _ _ => trivial))
     (case aO => exact (mR HO996.out))
     (case aS => exact (yX (by with_reducible repeat first | exact HB.out | apply yO | apply yN | apply yP | refine yQ ?_ GE992.out | refine yQ ?_ GE993.out | refine yQ ?_ GE1000.out)))
     (case aL => have := LMc2.out; omega)
     intro v998 w9 ho hb hg hat
     rw [← Ny997.out] at ho
     have n0_ := yA (blk_grown (g := gb992) (o := .cells #[.int .i64 a0_0, .int .i64 a0_1, .slice A0_2 l0_2.length c0_2, .slice A0_3 l0_3.length c0_3] 25 (0, 0)) (mK BK992.out) hg (zW HO996.out BK992.out (by decide)))
     have n1_ := yA (blk_grown (g := gb993) (o := .cells #[.int .i64 0, .int .i64 0, .slice none 0 0, .slice none 0 0] 25 (0, 0)) (mK BK993.out) hg (zW HO996.out BK993.out (by decide)))
     have n2_ := yA (blk_grown (g := gb1000) (o := .cells #[.int .i64 0, .int .i64 0, .slice none 0 0, .slice none 0 0] 25 (0, 0)) (mK BK1000.out) hg (zW HO996.out BK1000.out (by decide)))
     have n3_ := yA (hb)
     have n4_ := yA (ho)
     clear BK992
     clear BK993
     clear BK1000
     clear HB
     clear HO996
     have BK992 := n0_
     have BK993 := n1_
     have BK1000 := n2_
     have HB := n3_
     have HO999 := n4_
     clear n0_ n1_ n2_ n3_ n4_
     clear ho hb hg hat
     obtain ⟨Ao10, co10, eo10⟩ := Kd.R_slice HO999.out
     (first | subst eo10 | (injection eo10 with f1_ f2_ f3_; have f4_ := f1_.symm; have f5_ := f3_.symm; clear f1_ f2_ f3_; subst f4_; subst f5_))
     refine hK.out _ _ ⟨(yV BK992.out 0).trans rfl, (yV BK992.out 1).trans rfl, (yV BK992.out 2).trans rfl, (yV BK992.out 3).trans rfl⟩ (fun hHeld => ?_)
     clear hK K
     refine norm_ (a' := ?_) ?_ ?_
     rotate_left
     ·show Act.put _ (some 12) _ = _
      simp only [Act.put, zA, zB, zC, i64_w, i32_w]
      rfl
     refine pure_ (i := 8) (N := some 13) (v := ?_) (a' := ?_) #[true, true, true, true, true, true, true, true, true, true, false] rfl rfl (any_of HT_.out (by kernel_rfl)) (fun _ _ _ h => h) (Or.inl ⟨by rfl, ?_⟩) ?_ ?_
     rotate_left
     ·intro w'
      go_simp
      with_reducible rfl
     rotate_left
     ·simp only [Act.put, zA, zB, zC, i64_w, i32_w]
      rfl
     exact norm_ (by simp only [putAll, Act.put, zA, zB, zC]) (hCont (v995, .slice Ao10 y997.length co10, gb1000) _ ⟨hHeld, (mR HO999.out), (mK BK1000.out), (mK BK992.out), (mK BK993.out), GW1000.out, GE1000.out, NB992_1000.out, NB1000_992.out, NB993_1000.out, NB1000_993.out, (by with_reducible repeat first | exact HB.out | apply yO | apply yN | apply yP | refine yQ ?_ GE992.out | refine yQ ?_ GE993.out | refine yQ ?_ GE1000.out)⟩)
   ·skip
    refine box_step ?hg (N := 3) ?hd (cs := #[.int .i64 0, .int .i64 0, .slice none 0 0, .slice none 0 0]) (t := 25) ?hr ?_; (case hd => rfl); (case hg => rfl); (case hr => first | (go_simp; done) | (go_simp; rfl))
    intro gb1000 hg w6 hbox hb
    have n0_ := yA (yU (mK BK992.out) hb)
    have n1_ := yA (yU (mK BK993.out) hb)
    have n2_ := yA (zD (by with_reducible repeat first | exact HB.out | apply yO | apply yN | apply yP | refine yQ ?_ GE992.out | refine yQ ?_ GE993.out) hb)
    have n3_ := yA (hbox)
    have n4_ := yA ((by rw [hg]; exact (yX (by with_reducible repeat first | exact HB.out | apply yO | apply yN | apply yP | refine yQ ?_ GE992.out | refine yQ ?_ GE993.out)) : w.heap.size ≤ gb1000))
    have n5_ := yA ((by rw [hg]; exact (yX (by with_reducible repeat first | exact HB.out | apply yO | apply yN | apply yP | refine yQ ?_ GE992.out | refine yQ ?_ GE993.out)) : w.heap.size ≤ gb1000))
    have n6_ := yA ((by rw [hg]; exact Nat.ne_of_lt (zX (mK BK992.out)) : gb992 ≠ gb1000))
    have n7_ := yA ((by rw [hg]; exact Nat.ne_of_gt (zX (mK BK992.out)) : gb1000 ≠ gb992))
    have n8_ := yA ((by rw [hg]; exact Nat.ne_of_lt (zX (mK BK993.out)) : gb993 ≠ gb1000))
    have n9_ := yA ((by rw [hg]; exact Nat.ne_of_gt (zX (mK BK993.out)) : gb1000 ≠ gb993))
    clear BK992
    clear BK993
    clear HB
    have BK992 := n0_
    have BK993 := n1_
    have HB := n2_
    have BK1000 := n3_
    have GW1000 := n4_
    have GE1000 := n5_
    have NB992_1000 := n6_
    have NB1000_992 := n7_
    have NB993_1000 := n8_
    have NB1000_993 := n9_
    clear n0_ n1_ n2_ n3_ n4_ n5_ n6_ n7_ n8_ n9_
    clear hb hbox hg
    refine hK.out _ _ ⟨(yV BK992.out 0).trans rfl, (yV BK992.out 1).trans rfl, (yV BK992.out 2).trans rfl, (yV BK992.out 3).trans rfl⟩ (fun hHeld => ?_)
    clear hK K
    refine norm_ (a' := ?_) ?_ ?_
    rotate_left
    ·show Act.put _ (some 3) _ = _
     simp only [Act.put, zA, zB, zC, i64_w, i32_w]
     rfl
    refine one_ (i := 4) (N := some 9) #[true, true, true, true, true, true, true, false, false, true, false] rfl rfl (one_of HT_.out (by kernel_rfl)) (by decide) (fun K hK => ?_)
    refine Kd.R_lit_step Kd.bool _ 4 ?hg (N := 9) ?hd (xs := ([] : List Bool)) (inner := []) (ok := fun _ => True) (okp := fun _ => True) ?hr ?hp (fun _ hk => hk) trivial (zV _ _) (zT _) (by simp) ?_; (case hd => rfl); (case hg => rfl); (case hr => first | (go_simp; done) | (go_simp; rfl)); (case hp => exact (Reps.none _ _))
    intro v995 w7 ho8 hb hg_ hnew_
    clear hg_ hnew_
    (first | rw [← Ny994.out] at ho8 | (simp only [Int.reduceToNat] at ho8; rw [← Ny994.out] at ho8))
    have n0_ := yA (Kd.R_lower ho8 (yX (by with_reducible repeat first | exact HB.out | apply yO | apply yN | apply yP | refine yQ ?_ GE992.out | refine yQ ?_ GE993.out | refine yQ ?_ GE1000.out)))
    have n1_ := yA (yU (mK BK992.out) hb)
    have n2_ := yA (yU (mK BK993.out) hb)
    have n3_ := yA (yU (mK BK1000.out) hb)
    have n4_ := yA (zD (by with_reducible repeat first | exact HB.out | apply yO | apply yN | apply yP | refine yQ ?_ GE992.out | refine yQ ?_ GE993.out | refine yQ ?_ GE1000.out) hb)
    clear BK992
    clear BK993
    clear BK1000
    clear HB
    have HO996 := n0_
    have BK992 := n1_
    have BK993 := n2_
    have BK1000 := n3_
    have HB := n4_
    clear n0_ n1_ n2_ n3_ n4_
    clear hb ho8
    refine hK.out _ _ ⟨(yV BK992.out 0).trans rfl, (yV BK992.out 1).trans rfl, (yV BK992.out 2).trans rfl, (yV BK992.out 3).trans rfl⟩ (fun hHeld => ?_)
    clear hK K
    refine norm_ (a' := ?_) ?_ ?_
    rotate_left
    ·show Act.put _ (some 9) _ = _
     simp only [Act.put, zA, zB, zC, i64_w, i32_w]
     rfl
    refine one_ (i := 7) (N := some 12) #[true, true, true, true, true, true, true, true, false, true, false] rfl rfl (one_of HT_.out (by kernel_rfl)) (by decide) (fun K hK => ?_)
    refine Kd.R_append_rows_step Kd.bool (w0 := w) w.heap.size (by rfl) (.tmp 9) (.tmp 11) 23 4 (.bool false) 1 rfl Try.underlying23 info4 rfl (by decide) (by omega) v995 y994 l0_3 _ _ _ (fun _ => True) (fun _ => False) rfl rfl ?aO ?aR (fun _ _ h => h) (fun _ h => h.elim) ?aF ?aB ?aS ?aL ?_
    (case aR => repeat (first | exact (yM HR0_3.out HB.out) | (with_reducible refine yE ?_ _) | (with_reducible refine yF ?_ _) | (with_reducible refine yG ?_)))
    (case aB => exact (by with_reducible repeat first | exact HB.out | apply yO | apply yN | apply yP | refine yQ ?_ GE992.out | refine yQ ?_ GE993.out | refine yQ ?_ GE1000.out))
    (case aF => exact (fun _ _ => trivial))
    (case aO => exact (mR HO996.out))
    (case aS => exact (yX (by with_reducible repeat first | exact HB.out | apply yO | apply yN | apply yP | refine yQ ?_ GE992.out | refine yQ ?_ GE993.out | refine yQ ?_ GE1000.out)))
    (case aL => have := LMc2.out; omega)
    intro v998 w9 ho hb hg hat
    rw [← Ny997.out] at ho
    have n0_ := yA (blk_grown (g := gb992) (o := .cells #[.int .i64 a0_0, .int .i64 a0_1, .slice A0_2 l0_2.length c0_2, .slice A0_3 l0_3.length c0_3] 25 (0, 0)) (mK BK992.out) hg (zW HO996.out BK992.out (by decide)))
    have n1_ := yA (blk_grown (g := gb993) (o := .cells #[.int .i64 0, .int .i64 0, .slice none 0 0, .slice none 0 0] 25 (0, 0)) (mK BK993.out) hg (zW HO996.out BK993.out (by decide)))
    have n2_ := yA (blk_grown (g := gb1000) (o := .cells #[.int .i64 0, .int .i64 0, .slice none 0 0, .slice none 0 0] 25 (0, 0)) (mK BK1000.out) hg (zW HO996.out BK1000.out (by decide)))
    have n3_ := yA (hb)
    have n4_ := yA (ho)
    clear BK992
    clear BK993
    clear BK1000
    clear HB
    clear HO996
    have BK992 := n0_
    have BK993 := n1_
    have BK1000 := n2_
    have HB := n3_
    have HO999 := n4_
    clear n0_ n1_ n2_ n3_ n4_
    clear ho hb hg hat
    obtain ⟨Ao10, co10, eo10⟩ := Kd.R_slice HO999.out
    (first | subst eo10 | (injection eo10 with f1_ f2_ f3_; have f4_ := f1_.symm; have f5_ := f3_.symm; clear f1_ f2_ f3_; subst f4_; subst f5_))
    refine hK.out _ _ ⟨(yV BK992.out 0).trans rfl, (yV BK992.out 1).trans rfl, (yV BK992.out 2).trans rfl, (yV BK992.out 3).trans rfl⟩ (fun hHeld => ?_)
    clear hK K
    refine norm_ (a' := ?_) ?_ ?_
    rotate_left
    ·show Act.put _ (some 12) _ = _
     simp only [Act.put, zA, zB, zC, i64_w, i32_w]
     rfl
    refine pure_ (i := 8) (N := some 13) (v := ?_) (a' := ?_) #[true, true, true, true, true, true, true, true, true, true, false] rfl rfl (any_of HT_.out (by kernel_rfl)) (fun _ _ _ h => h) (Or.inl ⟨by rfl, ?_⟩) ?_ ?_
    rotate_left
    ·intro w'
     go_simp
     with_reducible rfl
    rotate_left
    ·simp only [Act.put, zA, zB, zC, i64_w, i32_w]
     rfl
    exact norm_ (by simp only [putAll, Act.put, zA, zB, zC]) (hCont (v995, .slice Ao10 y997.length co10, gb1000) _ ⟨hHeld, (mR HO999.out), (mK BK1000.out), (mK BK992.out), (mK BK993.out), GW1000.out, GE1000.out, NB992_1000.out, NB1000_992.out, NB993_1000.out, NB1000_993.out, (by with_reducible repeat first | exact HB.out | apply yO | apply yN | apply yP | refine yQ ?_ GE992.out | refine yQ ?_ GE993.out | refine yQ ?_ GE1000.out)⟩)
  rintro ⟨v995, v998, gb1000⟩ w11 ⟨hS_, h0_, h1_, h2_, h3_, h4_, h5_, h6_, h7_, h8_, h9_, h10_⟩
  have n0_ : Aside0 (Kd.R Kd.bool 4 w11 w.heap.size (fun _ => True) v998 y997) := ⟨h0_⟩
  have n1_ : Aside0 (w11.heap[gb1000]? = some (.cells #[.int .i64 0, .int .i64 0, .slice none 0 0, .slice none 0 0] 25 (0, 0))) := ⟨h1_⟩
  have n2_ : Aside0 (w11.heap[gb992]? = some (.cells #[.int .i64 a0_0, .int .i64 a0_1, .slice A0_2 l0_2.length c0_2, .slice A0_3 l0_3.length c0_3] 25 (0, 0))) := ⟨h2_⟩
  have n3_ : Aside0 (w11.heap[gb993]? = some (.cells #[.int .i64 0, .int .i64 0, .slice none 0 0, .slice none 0 0] 25 (0, 0))) := ⟨h3_⟩
  have n4_ : Aside0 (w.heap.size ≤ gb1000) := ⟨h4_⟩
  have n5_ : Aside0 (w.heap.size ≤ gb1000) := ⟨h5_⟩
  have n6_ : Aside0 (gb992 ≠ gb1000) := ⟨h6_⟩
  have n7_ : Aside0 (gb1000 ≠ gb992) := ⟨h7_⟩
  have n8_ : Aside0 (gb993 ≠ gb1000) := ⟨h8_⟩
  have n9_ : Aside0 (gb1000 ≠ gb993) := ⟨h9_⟩
  have n10_ : Aside0 (Below w.heap.size w w11) := ⟨h10_⟩
  clear BK992
  clear BK993
  clear HB
  clear h0_ h1_ h2_ h3_ h4_ h5_ h6_ h7_ h8_ h9_ h10_
  have HO999 := n0_
  have BK1000 := n1_
  have BK992 := n2_
  have BK993 := n3_
  have GW1000 := n4_
  have GE1000 := n5_
  have NB992_1000 := n6_
  have NB1000_992 := n7_
  have NB993_1000 := n8_
  have NB1000_993 := n9_
  have HB := n10_
  clear n0_ n1_ n2_ n3_ n4_ n5_ n6_ n7_ n8_ n9_ n10_
  have hHeld : w11.cell? ⟨gb992, 0, none⟩ = some (.int .i64 a0_0) ∧ w11.cell? ⟨gb992, 1, none⟩ = some (.int .i64 a0_1) ∧ w11.cell? ⟨gb992, 2, none⟩ = some (.slice A0_2 l0_2.length c0_2) ∧ w11.cell? ⟨gb992, 3, none⟩ = some (.slice A0_3 l0_3.length c0_3) := hS_
  obtain ⟨Ao12, co12, eo12⟩ := Kd.R_slice HO999.out
  (first | subst eo12 | (injection eo12 with f1_ f2_ f3_; have f4_ := f1_.symm; have f5_ := f3_.symm; clear f1_ f2_ f3_; subst f4_; subst f5_))
  refine norm_ (a' := ?_) ?_ ?_
  rotate_left
  ·simp only [putAll, Act.put, zA, zB, zC]
   rfl
  refine one_ (i := 10) (N := none) #[true, true, true, true, true, true, true, true, true, true, true] rfl rfl (one_of HT_.out (by kernel_rfl)) (by decide) (fun K hK => ?_)
  have hs13 : w11.cell? ⟨gb1000, 0, none⟩ = some (.int .i64 0) := (yV BK1000.out 0).trans rfl
  have hfs13 := yW BK1000.out 0
  have hns13_0 := NB992_1000.out
  have hns13_1 := NB993_1000.out
  have hms13_0 := NB1000_992.out
  have hms13_1 := NB1000_993.out
  have hs14 : w11.cell? ⟨gb1000, 1, none⟩ = some (.int .i64 0) := (yV BK1000.out 1).trans rfl
  have hfs14 := yW BK1000.out 1
  have hns14_0 := NB992_1000.out
  have hns14_1 := NB993_1000.out
  have hms14_0 := NB1000_992.out
  have hms14_1 := NB1000_993.out
  have hs15 : w11.cell? ⟨gb1000, 2, none⟩ = some (.slice none 0 0) := (yV BK1000.out 2).trans rfl
  have hfs15 := yW BK1000.out 2
  have hns15_0 := NB992_1000.out
  have hns15_1 := NB993_1000.out
  have hms15_0 := NB1000_992.out
  have hms15_1 := NB1000_993.out
  have hs16 : w11.cell? ⟨gb1000, 3, none⟩ = some (.slice none 0 0) := (yV BK1000.out 3).trans rfl
  have hfs16 := yW BK1000.out 3
  have hns16_0 := NB992_1000.out
  have hns16_1 := NB993_1000.out
  have hms16_0 := NB1000_992.out
  have hms16_1 := NB1000_993.out
  refine skip_ (w1 := ?_) (by rfl) rfl ?_ ?_
  rotate_left
  ·go_simp
   rfl
  refine hK.out _ _ ⟨((cell_far (p := ⟨gb1000, _, none⟩) NB992_1000.out _).trans (((cell_far (p := ⟨gb1000, _, none⟩) NB992_1000.out _).trans (((cell_far (p := ⟨gb1000, _, none⟩) NB992_1000.out _).trans (((cell_far (p := ⟨gb1000, _, none⟩) NB992_1000.out _).trans (hHeld.1)))))))), ((cell_far (p := ⟨gb1000, _, none⟩) NB992_1000.out _).trans (((cell_far (p := ⟨gb1000, _, none⟩) NB992_1000.out _).trans (((cell_far (p := ⟨gb1000, _, none⟩) NB992_1000.out _).trans (((cell_far (p := ⟨gb1000, _, none⟩) NB992_1000.out _).trans (hHeld.2.1)))))))), ((cell_far (p := ⟨gb1000, _, none⟩) NB992_1000.out _).trans (((cell_far (p := ⟨gb1000, _, none⟩) NB992_1000.out _).trans (((cell_far (p := ⟨gb1000, _, none⟩) NB992_1000.out _).trans (((cell_far (p := ⟨gb1000, _, none⟩) NB992_1000.out _).trans (hHeld.2.2.1)))))))), ((cell_far (p := ⟨gb1000, _, none⟩) NB992_1000.out _).trans (((cell_far (p := ⟨gb1000, _, none⟩) NB992_1000.out _).trans (((cell_far (p := ⟨gb1000, _, none⟩) NB992_1000.out _).trans (((cell_far (p := ⟨gb1000, _, none⟩) NB992_1000.out _).trans (hHeld.2.2.2))))))))⟩ (fun hHeld => ?_)
  clear hK K
  refine done_ (done_of HT_.out (by kernel_rfl)) ?_
  try go_wp2
  go_loopg [4] k (fun kq v4 w' => ∃ (x4_1 : Int) (x1001002_1 : List (List Int)) (u1001002 : Value), v4 = .int .i64 x4_1 ∧ Aside0 (spec_l13Copy.l0 kq x4_1 a0_0 a0_1 l0_2 l0_3 a0_0 a0_1 x1001002_1 y997 = some (r1, r2, r3, r4)) ∧ Aside0 (kq ≤ k) ∧ Aside0 (Kd.S (Kd.slice 3 (Kd.int .i64)) 38 w' w.heap.size (fun _ => True) u1001002 x1001002_1) ∧ Aside0 (Kd.R Kd.bool 4 w' w.heap.size (fun _ => True) (.slice Ao12 y997.length co12) y997) ∧ Aside0 (w'.heap[gb992]? = some (.cells #[.int .i64 a0_0, .int .i64 a0_1, (.slice A0_2 l0_2.length c0_2), (.slice A0_3 l0_3.length c0_3)] 25 (0, 0))) ∧ Aside0 (w'.heap[gb993]? = some (.cells #[.int .i64 0, .int .i64 0, (.slice none 0 0), (.slice none 0 0)] 25 (0, 0))) ∧ Aside0 (w'.heap[gb1000]? = some (.cells #[.int .i64 a0_0, .int .i64 a0_1, u1001002, (.slice Ao12 y997.length co12)] 25 (0, 0))) ∧ Aside0 (Below w.heap.size w w'))
  case atStart => exact ⟨(0), (([] : List (List Int))), (.slice none 0 0), (by first | rfl | (simp; done) | (simp [*]; done)), H', ⟨zT _⟩, ⟨by first | exact Kd.S_nil _ _ _ _ _ | exact Kd.N_nil _ _ _ _ _ | exact Kd.V_nil _ _ _ _ _ | exact Kd.Q_nil _ _ _ _ _ | exact Kd.R_nil _ _ _ _ _⟩, ⟨by (with_reducible repeat (first | apply yB | apply yC | apply yD)); exact zP (zQ (p := ⟨gb1000, 3, none⟩) (zQ (p := ⟨gb1000, 2, none⟩) (zQ (p := ⟨gb1000, 1, none⟩) (zQ (p := ⟨gb1000, 0, none⟩) (zR HO999.out BK1000.out (by decide)) (fun _ hk => hk.2) (.int .i64 a0_0)) (fun _ hk => hk.2) (.int .i64 a0_1)) (fun _ hk => hk.2) (.slice none 0 0)) (fun _ hk => hk.2) (.slice Ao12 y997.length co12)) (fun _ hk => trivial)⟩, ⟨by (with_reducible repeat (first | refine yS ?_ _ | refine yT ?_ | refine yR ?_ _)); refine blk_far ?_ NB992_1000.out _; (with_reducible repeat (first | refine yS ?_ _ | refine yT ?_ | refine yR ?_ _)); refine blk_far ?_ NB992_1000.out _; (with_reducible repeat (first | refine yS ?_ _ | refine yT ?_ | refine yR ?_ _)); refine blk_far ?_ NB992_1000.out _; (with_reducible repeat (first | refine yS ?_ _ | refine yT ?_ | refine yR ?_ _)); refine blk_far ?_ NB992_1000.out _; (with_reducible repeat (first | refine yS ?_ _ | refine yT ?_ | refine yR ?_ _)); exact BK992.out⟩, ⟨by (with_reducible repeat (first | refine yS ?_ _ | refine yT ?_ | refine yR ?_ _)); refine blk_far ?_ NB993_1000.out _; (with_reducible repeat (first | refine yS ?_ _ | refine yT ?_ | refine yR ?_ _)); refine blk_far ?_ NB993_1000.out _; (with_reducible repeat (first | refine yS ?_ _ | refine yT ?_ | refine yR ?_ _)); refine blk_far ?_ NB993_1000.out _; (with_reducible repeat (first | refine yS ?_ _ | refine yT ?_ | refine yR ?_ _)); refine blk_far ?_ NB993_1000.out _; (with_reducible repeat (first | refine yS ?_ _ | refine yT ?_ | refine yR ?_ _)); exact BK993.out⟩, ⟨by (with_reducible repeat (first | refine yS ?_ _ | refine yT ?_ | refine yR ?_ _)); refine blk_put (cs := #[.int .i64 a0_0, .int .i64 a0_1, .slice none 0 0, .slice none 0 0]) ?_ 3 _ rfl; (with_reducible repeat (first | refine yS ?_ _ | refine yT ?_ | refine yR ?_ _)); refine blk_put (cs := #[.int .i64 a0_0, .int .i64 a0_1, .slice none 0 0, .slice none 0 0]) ?_ 2 _ rfl; (with_reducible repeat (first | refine yS ?_ _ | refine yT ?_ | refine yR ?_ _)); refine blk_put (cs := #[.int .i64 a0_0, .int .i64 0, .slice none 0 0, .slice none 0 0]) ?_ 1 _ rfl; (with_reducible repeat (first | refine yS ?_ _ | refine yT ?_ | refine yR ?_ _)); refine blk_put (cs := #[.int .i64 0, .int .i64 0, .slice none 0 0, .slice none 0 0]) ?_ 0 _ rfl; (with_reducible repeat (first | refine yS ?_ _ | refine yT ?_ | refine yR ?_ _)); exact BK1000.out⟩, ⟨by repeat (first | (with_reducible first | exact HB.out | apply yO | apply yN | apply yP | refine yQ ?_ GE992.out | refine yQ ?_ GE993.out | refine yQ ?_ GE1000.out) | exact HB.out)⟩⟩
  case round =>
   clear H'
   try clear c2
   try clear p2
   try clear c8
   obtain ⟨x4_1, x1001002_1, u1001002, rfl, HA, HK1, HO_1001002, HO_1001003, BK992, BK993, BK1000, HB⟩ := hrel
   cases gk with
   | zero => exact absurd HA.out (by simp [spec_l13Copy.l0])
   | succ k1 =>
    have H := HA.out
    clear HA
    simp only [spec_l13Copy.l0] at H
    by_cases c17 : x4_1 < (l0_2.length : Int)
    ·rw [if_pos c17] at H
     have c17b0 : decide (x4_1 < (l0_2.length : Int)) = true := zH c17
     clear c17
     obtain ⟨y1001, hy1001⟩ : ∃ y_ : List Int, y_ = (([] : List Int)) := ⟨_, rfl⟩
     replace H : (if 0 ≤ x4_1 then (if y1001.length + (rd_L1 l0_2 x4_1).length < 17592186044416 then (if x1001002_1.length < 5864062014805 then (spec_l13Copy.l0 k1 (wrap64 (x4_1 + 1)) a0_0 a0_1 l0_2 l0_3 a0_0 a0_1 (x1001002_1 ++ [(y1001 ++ (rd_L1 l0_2 x4_1))]) y997) else (none)) else (none)) else (none)) = some (r1, r2, r3, r4) := by first | (rw [hy1001]; with_reducible exact H) | (have H2_ := (Option.bind_some _ _).symm.trans H; rw [hy1001]; with_reducible exact H2_) | (have H2_ := (Option.bind_some _ _).symm.trans H; with_reducible exact H2_) | with_reducible exact H | (rw [hy1001]; exact H) | exact H
     have Ny1001 := yA hy1001
     clear hy1001
     by_cases c18 : 0 ≤ x4_1
     ·rw [if_pos c18] at H
      have c18b0 : decide (0 ≤ x4_1) = true := zH c18
      clear c18
      by_cases c19 : y1001.length + (rd_L1 l0_2 x4_1).length < 17592186044416
      ·rw [if_pos c19] at H
       have LMc19 := yA c19
       clear c19
       obtain ⟨y1005, hy1005⟩ : ∃ y_ : List Int, y_ = (y1001 ++ (rd_L1 l0_2 x4_1)) := ⟨_, rfl⟩
       replace H : (if x1001002_1.length < 5864062014805 then (spec_l13Copy.l0 k1 (wrap64 (x4_1 + 1)) a0_0 a0_1 l0_2 l0_3 a0_0 a0_1 (x1001002_1 ++ [y1005]) y997) else (none)) = some (r1, r2, r3, r4) := by first | (rw [hy1005]; with_reducible exact H) | (have H2_ := (Option.bind_some _ _).symm.trans H; rw [hy1005]; with_reducible exact H2_) | (have H2_ := (Option.bind_some _ _).symm.trans H; with_reducible exact H2_) | with_reducible exact H | (rw [hy1005]; exact H) | exact H
       have Ny1005 := yA hy1005
       clear hy1005
       by_cases c20 : x1001002_1.length < 5864062014805
       ·rw [if_pos c20] at H
        have LMc20 := yA c20
        clear c20
        obtain ⟨y1008, hy1008⟩ : ∃ y_ : List (List Int), y_ = (x1001002_1 ++ [y1005]) := ⟨_, rfl⟩
        replace H : (spec_l13Copy.l0 k1 (wrap64 (x4_1 + 1)) a0_0 a0_1 l0_2 l0_3 a0_0 a0_1 y1008 y997) = some (r1, r2, r3, r4) := by first | (rw [hy1008]; with_reducible exact H) | (have H2_ := (Option.bind_some _ _).symm.trans H; rw [hy1008]; with_reducible exact H2_) | (have H2_ := (Option.bind_some _ _).symm.trans H; with_reducible exact H2_) | with_reducible exact H | (rw [hy1008]; exact H) | exact H
        have Ny1008 := yA hy1008
        clear hy1008
        have H' := yA H
        clear H
        have hnb21 := NB992_993.out
        have hnc21 := NB993_992.out
        have hnb22 := NB992_1000.out
        have hnc22 := NB1000_992.out
        have hcz23_0 : wr.cell? ⟨gb992, 0, none⟩ = some (.int .i64 a0_0) := (yV BK992.out 0).trans rfl
        have hcz23_1 : wr.cell? ⟨gb992, 1, none⟩ = some (.int .i64 a0_1) := (yV BK992.out 1).trans rfl
        have hcz23_2 : wr.cell? ⟨gb992, 2, none⟩ = some (.slice A0_2 l0_2.length c0_2) := (yV BK992.out 2).trans rfl
        have hcz23_3 : wr.cell? ⟨gb992, 3, none⟩ = some (.slice A0_3 l0_3.length c0_3) := (yV BK992.out 3).trans rfl
        have hfz23_0 := yW BK992.out 0
        have hfz23_1 := yW BK992.out 1
        have hfz23_2 := yW BK992.out 2
        have hfz23_3 := yW BK992.out 3
        try go_wp2
        have n0_ := yA (yJ HO_1001002.out)
        have n1_ := yA (yD HO_1001003.out)
        have n2_ := yA (yT BK992.out)
        have n3_ := yA (yT BK993.out)
        have n4_ := yA (yT BK1000.out)
        have n5_ := yA (yP HB.out)
        clear HO_1001002
        clear HO_1001003
        clear BK992
        clear BK993
        clear BK1000
        clear HB
        have HO_1001002 := n0_
        have HO_1001003 := n1_
        have BK992 := n2_
        have BK993 := n3_
        have BK1000 := n4_
        have HB := n5_
        clear n0_ n1_ n2_ n3_ n4_ n5_
        have p1004 : 0 ≤ (x4_1 : Int) := zG (by first | (with_reducible assumption) | assumption)
        have q1004 : x4_1 < (l0_2.length : Int) := zG (by first | (with_reducible assumption) | assumption)
        obtain ⟨ad1004, A1004_0, c1004_0, e1004, hx1004_0, hl1004_0, hi1004_0⟩ := at_L1 HR0_2.out x4_1 p1004 q1004
        have hw1004_0 := hx1004_0
        cases e1004
        try replace hx1004_0 := (HB.out.cell (zE w _ hx1004_0)).trans hx1004_0
        have HR1004_0 := yA hi1004_0
        have HC1004_0 := yA hl1004_0
        clear hi1004_0 hl1004_0
        replace p1004 := eq_true p1004
        replace q1004 := eq_true q1004
        refine start_ (n := 13) (S := fun w' => w'.cell? ⟨gb1000, 0, none⟩ = some (.int .i64 a0_0) ∧ w'.cell? ⟨gb1000, 1, none⟩ = some (.int .i64 a0_1) ∧ w'.cell? ⟨gb1000, 2, none⟩ = some (u1001002) ∧ w'.cell? ⟨gb1000, 3, none⟩ = some (.slice Ao12 y997.length co12) ∧ w'.cell? ⟨gb992, 0, none⟩ = some (.int .i64 a0_0) ∧ w'.cell? ⟨gb992, 1, none⟩ = some (.int .i64 a0_1) ∧ w'.cell? ⟨gb992, 2, none⟩ = some (.slice (some ad1004) l0_2.length c0_2) ∧ w'.cell? ⟨gb992, 3, none⟩ = some (.slice A0_3 l0_3.length c0_3) ∧ w'.cell? (ad1004.add (x4_1).toNat) = some (.slice A1004_0 (rd_L1 l0_2 x4_1).length c1004_0)) (ds := [12]) #[false, false, false, false, false, false, false, false, false, false, false, false, false] (by kernel_rfl) rfl rfl ⟨(yV BK1000.out 0).trans rfl, (yV BK1000.out 1).trans rfl, (yV BK1000.out 2).trans rfl, (yV BK1000.out 3).trans rfl, (yV BK992.out 0).trans rfl, (yV BK992.out 1).trans rfl, (yV BK992.out 2).trans rfl, (yV BK992.out 3).trans rfl, ((HB.out.cell (zE w _ hw1004_0)).trans hw1004_0)⟩ (fun hHeld => ?_); refine with_tabW spec_l13Copy.tab5 spec_l13Copy.bits5 (fun HT_ HW_ => ?_)
        generalize wr.drew = w24 at HO_1001002 HO_1001003 BK992 BK993 BK1000 HB HR1004_0 hx1004_0 hHeld ⊢
        refine pure_ (i := 0) (N := some 21) (v := ?_) (a' := ?_) #[true, false, false, false, false, false, false, false, false, false, false, false, false] rfl rfl (any_of HT_.out (by kernel_rfl)) (fun _ _ _ h => h) (Or.inl ⟨by rfl, ?_⟩) ?_ ?_
        rotate_left
        ·intro w'
         go_simp
         with_reducible rfl
        rotate_left
        ·simp only [Act.put, zA, zB, zC, i64_w, i32_w]
         rfl
        refine pure_ (i := 3) (N := some 24) (v := ?_) (a' := ?_) #[true, false, false, true, false, false, false, false, false, false, false, false, false] rfl rfl (any_of HT_.out (by kernel_rfl)) (fun _ _ _ h => h) (Or.inl ⟨by rfl, ?_⟩) ?_ ?_
        rotate_left
        ·intro w'
         go_simp
         with_reducible rfl
        rotate_left
        ·simp only [Act.put, zA, zB, zC, i64_w, i32_w]
         rfl
        refine pure_ (i := 5) (N := some 26) (v := ?_) (a' := ?_) #[true, false, false, true, false, true, false, false, false, false, false, false, false] rfl rfl (any_of HT_.out (by kernel_rfl)) (fun _ _ _ h => h) (Or.inl ⟨by rfl, ?_⟩) ?_ ?_
        rotate_left
        ·intro w'
         go_simp
         with_reducible rfl
        rotate_left
        ·simp only [Act.put, zA, zB, zC, i64_w, i32_w]
         rfl
        refine take_ (i := 1) (N := some 22) (v := ?_) (a' := ?_) #[true, true, false, true, false, true, false, false, false, false, false, false, false] rfl rfl (take_ofW HT_.out HW_.out (by kernel_rfl)) (fun _ _ _ h => h) (Or.inl ⟨by rfl, ?_⟩) hHeld ?_ ?_
        rotate_left
        ·rintro w' ⟨s0, s1, s2, s3, s4, s5, s6, s7, s8⟩
         go_simp
         with_reducible rfl
        rotate_left
        ·simp only [Act.put, zA, zB, zC, i64_w, i32_w]
         rfl
        refine take_ (i := 4) (N := some 25) (v := ?_) (a' := ?_) #[true, true, false, true, true, true, false, false, false, false, false, false, false] rfl rfl (take_ofW HT_.out HW_.out (by kernel_rfl)) (fun _ _ _ h => h) (Or.inl ⟨by rfl, ?_⟩) hHeld ?_ ?_
        rotate_left
        ·rintro w' ⟨s0, s1, s2, s3, s4, s5, s6, s7, s8⟩
         go_simp
         with_reducible rfl
        rotate_left
        ·simp only [Act.put, zA, zB, zC, i64_w, i32_w]
         rfl
        refine pure_ (i := 6) (N := some 27) (v := ?_) (a' := ?_) #[true, true, false, true, true, true, true, false, false, false, false, false, false] rfl rfl (any_of HT_.out (by kernel_rfl)) (fun _ _ _ h => h) (Or.inl ⟨by rfl, ?_⟩) ?_ ?_
        rotate_left
        ·intro w'
         go_simp
         with_reducible rfl
        rotate_left
        ·simp only [Act.put, zA, zB, zC, i64_w, i32_w]
         rfl
        refine take_ (i := 7) (N := some 28) (v := ?_) (a' := ?_) #[true, true, false, true, true, true, true, true, false, false, false, false, false] rfl rfl (take_ofW HT_.out HW_.out (by kernel_rfl)) (fun _ _ _ h => h) (Or.inl ⟨by rfl, ?_⟩) hHeld ?_ ?_
        rotate_left
        ·rintro w' ⟨s0, s1, s2, s3, s4, s5, s6, s7, s8⟩
         go_simp
         with_reducible rfl
        rotate_left
        ·simp only [Act.put, zA, zB, zC, i64_w, i32_w]
         rfl
        refine one_ (i := 2) (N := some 23) #[true, true, true, true, true, true, true, true, false, false, false, false, false] rfl rfl (one_of HT_.out (by kernel_rfl)) (by decide) (fun K hK => ?_)
        refine Kd.R_lit_step (Kd.int .i64) _ 3 ?hg (N := 23) ?hd (xs := ([] : List Int)) (inner := []) (ok := fun _ => True) (okp := fun _ => True) ?hr ?hp (fun _ hk => hk) trivial (zV _ _) (zT _) (by simp) ?_; (case hd => rfl); (case hg => rfl); (case hr => first | (go_simp; done) | (go_simp; rfl)); (case hp => exact (Reps.none _ _))
        intro v1002 w25 ho26 hb hg_ hnew_
        clear hg_ hnew_
        (first | rw [← Ny1001.out] at ho26 | (simp only [Int.reduceToNat] at ho26; rw [← Ny1001.out] at ho26))
        have n0_ := yA (Kd.S_elder' (mS HO_1001002.out) (yY ho26) hb)
        have n1_ := yA (yK (mR HO_1001003.out) hb)
        have n2_ := yA (Kd.R_lower ho26 (yX (by with_reducible repeat first | exact HB.out | apply yO | apply yN | apply yP | refine yQ ?_ GE992.out | refine yQ ?_ GE993.out | refine yQ ?_ GE1000.out)))
        have n3_ := yA (yU (mK BK992.out) hb)
        have n4_ := yA (yU (mK BK993.out) hb)
        have n5_ := yA (yU (mK BK1000.out) hb)
        have n6_ := yA (zD (by with_reducible repeat first | exact HB.out | apply yO | apply yN | apply yP | refine yQ ?_ GE992.out | refine yQ ?_ GE993.out | refine yQ ?_ GE1000.out) hb)
        clear HO_1001002
        clear HO_1001003
        clear BK992
        clear BK993
        clear BK1000
        clear HB
        have HO_1001002 := n0_
        have HO_1001003 := n1_
        have HO1003 := n2_
        have BK992 := n3_
        have BK993 := n4_
        have BK1000 := n5_
        have HB := n6_
        clear n0_ n1_ n2_ n3_ n4_ n5_ n6_
        clear hb ho26
        refine hK.out _ _ ⟨(yV BK1000.out 0).trans rfl, (yV BK1000.out 1).trans rfl, (yV BK1000.out 2).trans rfl, (yV BK1000.out 3).trans rfl, (yV BK992.out 0).trans rfl, (yV BK992.out 1).trans rfl, (yV BK992.out 2).trans rfl, (yV BK992.out 3).trans rfl, ((HB.out.cell (zE w _ hw1004_0)).trans hw1004_0)⟩ (fun hHeld => ?_)
        clear hK K
        refine norm_ (a' := ?_) ?_ ?_
        rotate_left
        ·show Act.put _ (some 23) _ = _
         simp only [Act.put, zA, zB, zC, i64_w, i32_w]
         rfl
        refine one_ (i := 8) (N := some 29) #[true, true, true, true, true, true, true, true, true, false, false, false, false] rfl rfl (one_of HT_.out (by kernel_rfl)) (by decide) (fun K hK => ?_)
        refine Kd.R_append_rows_step (Kd.int .i64) (w0 := w) w.heap.size (by rfl) (.tmp 23) (.tmp 28) 38 3 (.int .i64 0) 8 rfl Try.underlying38 info3 rfl (by decide) (by omega) v1002 y1001 (rd_L1 l0_2 x4_1) _ _ _ (fun _ => True) (fun _ => False) rfl rfl ?aO ?aR (fun _ _ h => h) (fun _ h => h.elim) ?aF ?aB ?aS ?aL ?_
        (case aR => repeat (first | exact (yM HR1004_0.out HB.out) | (with_reducible refine yE ?_ _) | (with_reducible refine yF ?_ _) | (with_reducible refine yG ?_)))
        (case aB => exact (by with_reducible repeat first | exact HB.out | apply yO | apply yN | apply yP | refine yQ ?_ GE992.out | refine yQ ?_ GE993.out | refine yQ ?_ GE1000.out))
        (case aF => exact (fun _ _ => trivial))
        (case aO => exact (mR HO1003.out))
        (case aS => exact (yX (by with_reducible repeat first | exact HB.out | apply yO | apply yN | apply yP | refine yQ ?_ GE992.out | refine yQ ?_ GE993.out | refine yQ ?_ GE1000.out)))
        (case aL => have := LMc19.out; omega)
        intro v1006 w27 ho hb hg hat
        rw [← Ny1005.out] at ho
        have n0_ := yA (Kd.S_after (ok := (fun _ => True)) (mS HO_1001002.out) hg hat)
        have n1_ := yA (Kd.R_over' (mR HO_1001003.out) (Kd.R_typed (mR HO1003.out)) (by decide) hg)
        have n2_ := yA (blk_grown (g := gb992) (o := .cells #[.int .i64 a0_0, .int .i64 a0_1, .slice (some ad1004) l0_2.length c0_2, .slice A0_3 l0_3.length c0_3] 25 (0, 0)) (mK BK992.out) hg (zW HO1003.out BK992.out (by decide)))
        have n3_ := yA (blk_grown (g := gb993) (o := .cells #[.int .i64 0, .int .i64 0, .slice none 0 0, .slice none 0 0] 25 (0, 0)) (mK BK993.out) hg (zW HO1003.out BK993.out (by decide)))
        have n4_ := yA (blk_grown (g := gb1000) (o := .cells #[.int .i64 a0_0, .int .i64 a0_1, u1001002, .slice Ao12 y997.length co12] 25 (0, 0)) (mK BK1000.out) hg (zW HO1003.out BK1000.out (by decide)))
        have n5_ := yA (hb)
        have n6_ := yA (ho)
        clear HO_1001002
        clear HO_1001003
        clear BK992
        clear BK993
        clear BK1000
        clear HB
        clear HO1003
        have HO_1001002 := n0_
        have HO_1001003 := n1_
        have BK992 := n2_
        have BK993 := n3_
        have BK1000 := n4_
        have HB := n5_
        have HO1007 := n6_
        clear n0_ n1_ n2_ n3_ n4_ n5_ n6_
        clear ho hb hg hat
        obtain ⟨Ao29, co29, eo29⟩ := Kd.R_slice HO1007.out
        (first | subst eo29 | (injection eo29 with f1_ f2_ f3_; have f4_ := f1_.symm; have f5_ := f3_.symm; clear f1_ f2_ f3_; subst f4_; subst f5_))
        refine hK.out _ _ ⟨(yV BK1000.out 0).trans rfl, (yV BK1000.out 1).trans rfl, (yV BK1000.out 2).trans rfl, (yV BK1000.out 3).trans rfl, (yV BK992.out 0).trans rfl, (yV BK992.out 1).trans rfl, (yV BK992.out 2).trans rfl, (yV BK992.out 3).trans rfl, ((HB.out.cell (zE w _ hw1004_0)).trans hw1004_0)⟩ (fun hHeld => ?_)
        clear hK K
        refine norm_ (a' := ?_) ?_ ?_
        rotate_left
        ·show Act.put _ (some 29) _ = _
         simp only [Act.put, zA, zB, zC, i64_w, i32_w]
         rfl
        refine one_ (i := 9) (N := some 30) #[true, true, true, true, true, true, true, true, true, true, false, false, false] rfl rfl (one_of HT_.out (by kernel_rfl)) (by decide) (fun K hK => ?_)
        refine value_ (w1 := ?_) (v := ?_) (by rfl) rfl ?_ ?_
        rotate_left 2
        ·go_simp
         constructor
         ·rfl
         ·rfl
        refine hK.out _ _ ⟨(yV (yR BK1000.out _) 0).trans rfl, (yV (yR BK1000.out _) 1).trans rfl, (yV (yR BK1000.out _) 2).trans rfl, (yV (yR BK1000.out _) 3).trans rfl, (yV (yR BK992.out _) 0).trans rfl, (yV (yR BK992.out _) 1).trans rfl, (yV (yR BK992.out _) 2).trans rfl, (yV (yR BK992.out _) 3).trans rfl, (World.cell?_alloc_lt _ _ _ (zE _ _ (((HB.out.cell (zE w _ hw1004_0)).trans hw1004_0)))).trans (((HB.out.cell (zE w _ hw1004_0)).trans hw1004_0))⟩ (fun hHeld => ?_)
        clear hK K
        refine norm_ (a' := ?_) ?_ ?_
        rotate_left
        ·show Act.put _ (some 30) _ = _
         simp only [Act.put, zA, zB, zC, i64_w, i32_w]
         rfl
        refine one_ (i := 10) (N := some 31) #[true, true, true, true, true, true, true, true, true, true, true, false, false] rfl rfl (one_of HT_.out (by kernel_rfl)) (by decide) (fun K hK => ?_)
        refine Kd.S_append_step (Kd.slice 3 (Kd.int .i64)) (w0 := w) w.heap.size (by rfl) (.tmp 22) (.tmp 30) 22 38 (.slice none 0 0) 24 rfl Try.underlying22 info38 rfl (by decide) (by omega) u1001002 x1001002_1 y1005 [.slice Ao29 y1005.length co29] (fun _ => True) (fun k_ => some k_ = (.slice Ao29 y1005.length co29 : Value).ownBlock) rfl rfl ?aP (fun k_ hk_ => ((zP (ok' := fun k_ => ((fun _ => True)) k_ ∧ some k_ ≠ (u1001002 : Value).ownBlock) (Kd.R_apart' (HO1007.out) (Kd.S_typed HO_1001002.out) (by decide)) (fun k_ hk => ⟨trivial, hk.2⟩))).1 k_ hk_.symm) ?aF ?aO ?aB ?aS ?aL ?_
        (case aP => exact Kd.M_row (zP (Kd.R_tight rfl (zP (ok' := fun k_ => ((fun _ => True)) k_ ∧ some k_ ≠ (u1001002 : Value).ownBlock) (Kd.R_apart' (HO1007.out) (Kd.S_typed HO_1001002.out) (by decide)) (fun k_ hk => ⟨trivial, hk.2⟩))) (fun _ h_ => h_)))
        (case aB => exact (by with_reducible repeat first | exact HB.out | apply yO | apply yN | apply yP | refine yQ ?_ GE992.out | refine yQ ?_ GE993.out | refine yQ ?_ GE1000.out))
        (case aF => exact (fun _ _ => trivial))
        (case aO => exact (mS (Kd.S_mono HO_1001002.out (fun k_ hk => ⟨trivial, fun e_ => hk.2 e_⟩))))
        (case aS => exact (yX (by with_reducible repeat first | exact HB.out | apply yO | apply yN | apply yP | refine yQ ?_ GE992.out | refine yQ ?_ GE993.out | refine yQ ?_ GE1000.out)))
        (case aL => have := LMc20.out; omega)
        intro v1009 w28 ho hb hg hat
        rw [← Ny1008.out] at ho
        have n0_ := yA (Kd.R_over' (mR HO_1001003.out) (Kd.S_typed (mS HO_1001002.out)) (by decide) hg)
        have n1_ := yA (blk_grown (g := gb992) (o := .cells #[.int .i64 a0_0, .int .i64 a0_1, .slice (some ad1004) l0_2.length c0_2, .slice A0_3 l0_3.length c0_3] 25 (0, 0)) (mK BK992.out) hg (Kd.S_ne HO_1001002.out BK992.out (by decide)))
        have n2_ := yA (blk_grown (g := gb993) (o := .cells #[.int .i64 0, .int .i64 0, .slice none 0 0, .slice none 0 0] 25 (0, 0)) (mK BK993.out) hg (Kd.S_ne HO_1001002.out BK993.out (by decide)))
        have n3_ := yA (blk_grown (g := gb1000) (o := .cells #[.int .i64 a0_0, .int .i64 a0_1, u1001002, .slice Ao12 y997.length co12] 25 (0, 0)) (mK BK1000.out) hg (Kd.S_ne HO_1001002.out BK1000.out (by decide)))
        have n4_ := yA (hb)
        have n5_ := yA (ho)
        clear HO_1001003
        clear BK992
        clear BK993
        clear BK1000
        clear HB
        clear HO_1001002
        clear HO1007
        have HO_1001003 := n0_
        have BK992 := n1_
        have BK993 := n2_
        have BK1000 := n3_
        have HB := n4_
        have HO1010 := n5_
        clear n0_ n1_ n2_ n3_ n4_ n5_
        clear ho hb hg hat
        obtain ⟨Ao30, co30, eo30⟩ := Kd.S_slice HO1010.out
        (first | subst eo30 | (injection eo30 with f1_ f2_ f3_; have f4_ := f1_.symm; have f5_ := f3_.symm; clear f1_ f2_ f3_; subst f4_; subst f5_))
        refine hK.out _ _ ⟨(yV BK1000.out 0).trans rfl, (yV BK1000.out 1).trans rfl, (yV BK1000.out 2).trans rfl, (yV BK1000.out 3).trans rfl, (yV BK992.out 0).trans rfl, (yV BK992.out 1).trans rfl, (yV BK992.out 2).trans rfl, (yV BK992.out 3).trans rfl, ((HB.out.cell (zE w _ hw1004_0)).trans hw1004_0)⟩ (fun hHeld => ?_)
        clear hK K
        refine norm_ (a' := ?_) ?_ ?_
        rotate_left
        ·show Act.put _ (some 31) _ = _
         simp only [Act.put, zA, zB, zC, i64_w, i32_w]
         rfl
        refine pure_ (i := 11) (N := some 32) (v := ?_) (a' := ?_) #[true, true, true, true, true, true, true, true, true, true, true, true, false] rfl rfl (any_of HT_.out (by kernel_rfl)) (fun _ _ _ h => h) (Or.inl ⟨by rfl, ?_⟩) ?_ ?_
        rotate_left
        ·intro w'
         go_simp
         with_reducible rfl
        rotate_left
        ·simp only [Act.put, zA, zB, zC, i64_w, i32_w]
         rfl
        refine last_ (i := 12) (N := none) #[true, true, true, true, true, true, true, true, true, true, true, true, true] rfl rfl (one_of HT_.out (by kernel_rfl)) (by decide) (fun K hK => ?_)
        have hs31 : w28.cell? ⟨gb1000, 2, none⟩ = some (u1001002) := (yV BK1000.out 2).trans rfl
        have hfs31 := yW BK1000.out 2
        have hns31_0 := NB992_1000.out
        have hns31_1 := NB993_1000.out
        have hms31_0 := NB1000_992.out
        have hms31_1 := NB1000_993.out
        refine skip_ (w1 := ?_) (by rfl) rfl ?_ ?_
        rotate_left
        ·go_simp
         rfl
        refine hK.out _ _ ?_
        clear hK K
        refine done_ (done_of HT_.out (by kernel_rfl)) ?_
        try go_wp2
        go_roundg k1
        case measure => have := HK1.out; omega
        case rel => exact ⟨(wrap64 (x4_1 + 1)), (y1008), (.slice Ao30 y1008.length co30), (by first | rfl | (simp; done) | (simp [*]; done)), H', ⟨by have := HK1.out; omega⟩, ⟨by (with_reducible repeat (first | apply yH | apply yI | apply yJ)); exact Kd.S_mono (Kd.S_far (p := ⟨gb1000, 2, none⟩) (Kd.S_types HO1010.out BK1000.out (by decide)) (fun _ hk => hk.2) (.slice Ao30 y1008.length co30)) (fun _ hk => trivial)⟩, ⟨by (with_reducible repeat (first | apply yB | apply yC | apply yD)); exact zP (zQ (p := ⟨gb1000, 2, none⟩) (zR HO_1001003.out BK1000.out (by decide)) (fun _ hk => hk.2) (.slice Ao30 y1008.length co30)) (fun _ hk => trivial)⟩, ⟨by (with_reducible repeat (first | refine yS ?_ _ | refine yT ?_ | refine yR ?_ _)); refine blk_far ?_ NB992_1000.out _; (with_reducible repeat (first | refine yS ?_ _ | refine yT ?_ | refine yR ?_ _)); exact BK992.out⟩, ⟨by (with_reducible repeat (first | refine yS ?_ _ | refine yT ?_ | refine yR ?_ _)); refine blk_far ?_ NB993_1000.out _; (with_reducible repeat (first | refine yS ?_ _ | refine yT ?_ | refine yR ?_ _)); exact BK993.out⟩, ⟨by (with_reducible repeat (first | refine yS ?_ _ | refine yT ?_ | refine yR ?_ _)); refine blk_put (cs := #[.int .i64 a0_0, .int .i64 a0_1, u1001002, .slice Ao12 y997.length co12]) ?_ 2 _ rfl; (with_reducible repeat (first | refine yS ?_ _ | refine yT ?_ | refine yR ?_ _)); exact BK1000.out⟩, ⟨by repeat (first | (with_reducible first | exact HB.out | apply yO | apply yN | apply yP | refine yQ ?_ GE992.out | refine yQ ?_ GE993.out | refine yQ ?_ GE1000.out) | exact HB.out)⟩⟩
       ·rw [if_neg c20] at H
        exact absurd H (by simp)
      ·rw [if_neg c19] at H
       exact absurd H (by simp)
     ·rw [if_neg c18] at H
      exact absurd H (by simp)
    ·rw [if_neg c17] at H
     have c17b0 : decide (x4_1 < (l0_2.length : Int)) = false := decide_eq_false c17
     clear c17
     simp only [Option.some.injEq, Prod.mk.injEq] at H
     obtain ⟨rfl, rfl, rfl, rfl⟩ := H
     have hnb32 := NB992_993.out
     have hnc32 := NB993_992.out
     have hnb33 := NB992_1000.out
     have hnc33 := NB1000_992.out
     have hcz34_0 : wr.cell? ⟨gb992, 0, none⟩ = some (.int .i64 a0_0) := (yV BK992.out 0).trans rfl
     have hcz34_1 : wr.cell? ⟨gb992, 1, none⟩ = some (.int .i64 a0_1) := (yV BK992.out 1).trans rfl
     have hcz34_2 : wr.cell? ⟨gb992, 2, none⟩ = some (.slice A0_2 l0_2.length c0_2) := (yV BK992.out 2).trans rfl
     have hcz34_3 : wr.cell? ⟨gb992, 3, none⟩ = some (.slice A0_3 l0_3.length c0_3) := (yV BK992.out 3).trans rfl
     have hfz34_0 := yW BK992.out 0
     have hfz34_1 := yW BK992.out 1
     have hfz34_2 := yW BK992.out 2
     have hfz34_3 := yW BK992.out 3
     have hnb35 := NB1000_993.out
     have hnc35 := NB993_1000.out
     have hcz36_0 : wr.cell? ⟨gb1000, 0, none⟩ = some (.int .i64 a0_0) := (yV BK1000.out 0).trans rfl
     have hcz36_1 : wr.cell? ⟨gb1000, 1, none⟩ = some (.int .i64 a0_1) := (yV BK1000.out 1).trans rfl
     have hcz36_2 : wr.cell? ⟨gb1000, 2, none⟩ = some (u1001002) := (yV BK1000.out 2).trans rfl
     have hcz36_3 : wr.cell? ⟨gb1000, 3, none⟩ = some (.slice Ao12 y997.length co12) := (yV BK1000.out 3).trans rfl
     have hfz36_0 := yW BK1000.out 0
     have hfz36_1 := yW BK1000.out 1
     have hfz36_2 := yW BK1000.out 2
     have hfz36_3 := yW BK1000.out 3
     have hcz37_0 : wr.cell? ⟨gb993, 0, none⟩ = some (.int .i64 0) := (yV BK993.out 0).trans rfl
     have hcz37_1 : wr.cell? ⟨gb993, 1, none⟩ = some (.int .i64 0) := (yV BK993.out 1).trans rfl
     have hcz37_2 : wr.cell? ⟨gb993, 2, none⟩ = some (.slice none 0 0) := (yV BK993.out 2).trans rfl
     have hcz37_3 : wr.cell? ⟨gb993, 3, none⟩ = some (.slice none 0 0) := (yV BK993.out 3).trans rfl
     have hfz37_0 := yW BK993.out 0
     have hfz37_1 := yW BK993.out 1
     have hfz37_2 := yW BK993.out 2
     have hfz37_3 := yW BK993.out 3
     obtain ⟨Ao38, co38, eo38⟩ := Kd.S_slice HO_1001002.out
     subst eo38
     go_wp2
     refine bodyPost_ret (results_cell_row rfl _ _ gb993 25 #[.int .i64 a0_0, .int .i64 a0_1, .slice Ao38 x1001002_1.length co38, .slice Ao12 y997.length co12] (0, 0) _ rfl (by (with_reducible repeat (first | refine yS ?_ _ | refine yT ?_ | refine yR ?_ _)); refine blk_put (cs := #[.int .i64 a0_0, .int .i64 a0_1, .slice Ao38 x1001002_1.length co38, .slice none 0 0]) ?_ 3 _ rfl; (with_reducible repeat (first | refine yS ?_ _ | refine yT ?_ | refine yR ?_ _)); refine blk_put (cs := #[.int .i64 a0_0, .int .i64 a0_1, .slice none 0 0, .slice none 0 0]) ?_ 2 _ rfl; (with_reducible repeat (first | refine yS ?_ _ | refine yT ?_ | refine yR ?_ _)); refine blk_put (cs := #[.int .i64 a0_0, .int .i64 0, .slice none 0 0, .slice none 0 0]) ?_ 1 _ rfl; (with_reducible repeat (first | refine yS ?_ _ | refine yT ?_ | refine yR ?_ _)); refine blk_put (cs := #[.int .i64 0, .int .i64 0, .slice none 0 0, .slice none 0 0]) ?_ 0 _ rfl; (with_reducible repeat (first | refine yS ?_ _ | refine yT ?_ | refine yR ?_ _)); exact BK993.out) Try.underlying25 rfl (by kernel_rfl)) rfl ?_
     exact ⟨_, _, by first | rfl | (simp [errW_none, errW_some] <;> rfl) | (simp [*, errW_none, errW_some] <;> rfl), by (with_reducible repeat (first | apply yH | apply yI | apply yJ)); exact Kd.S_mono (Kd.S_far (p := ⟨gb993, 3, none⟩) (Kd.S_far (p := ⟨gb993, 2, none⟩) (Kd.S_far (p := ⟨gb993, 1, none⟩) (Kd.S_far (p := ⟨gb993, 0, none⟩) (Kd.S_types HO_1001002.out BK993.out (by decide)) (fun _ hk => hk.2) (.int .i64 a0_0)) (fun _ hk => hk.2) (.int .i64 a0_1)) (fun _ hk => hk.2) (.slice Ao38 x1001002_1.length co38)) (fun _ hk => hk.2) (.slice Ao12 y997.length co12)) (fun _ hk => trivial), by (with_reducible repeat (first | apply yB | apply yC | apply yD)); exact zP (zQ (p := ⟨gb993, 3, none⟩) (zQ (p := ⟨gb993, 2, none⟩) (zQ (p := ⟨gb993, 1, none⟩) (zQ (p := ⟨gb993, 0, none⟩) (zR HO_1001003.out BK993.out (by decide)) (fun _ hk => hk.2) (.int .i64 a0_0)) (fun _ hk => hk.2) (.int .i64 a0_1)) (fun _ hk => hk.2) (.slice Ao38 x1001002_1.length co38)) (fun _ hk => hk.2) (.slice Ao12 y997.length co12)) (fun _ hk => trivial), by repeat (first | (with_reducible first | exact HB.out | apply yO | apply yN | apply yP | refine yQ ?_ GE992.out | refine yQ ?_ GE993.out | refine yQ ?_ GE1000.out) | exact HB.out)⟩
 ·rw [if_neg c2] at H
  exact absurd H (by simp)

end Go.Proofs.Ytgopcliohchkmaa.Q
