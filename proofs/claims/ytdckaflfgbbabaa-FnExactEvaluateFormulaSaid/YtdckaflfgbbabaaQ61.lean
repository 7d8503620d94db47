-- written by a program of this session (a turned copy of the kit's print) out of the translation
-- squeezed
-- compact
import Derived.Test.YtdckaflfgbbabaaQ0
import Derived.Test.YtdckaflfgbbabaaQ55
import Derived.Test.YtdckaflfgbbabaaQ57
import Derived.Test.YtdckaflfgbbabaaQ59
import Derived.Test.YtdckaflfgbbabaaQ60
namespace Go.Proofs.Ytdckaflfgbbabaa.Q
open Go.RowKit Go.Proofs.YtdckaflfgbbabaaW.PrintWords Go.Proofs.YtdckaflfgbbabaaW.PrintLast Go.Proofs.YtdckaflfgbbabaaW.PrintMore
attribute [local go_sem] max2_int min2_int max_two min_two max_three min_three max_four min_four   -- for this text's walks alone
set_option linter.unusedVariables false
set_option linter.unusedSimpArgs false

/-! ### spec_TermAt: function 71 -/
def spec_TermAt.j0 : Nat → Int → Bool → Int → List (List Int) → List Int → Option (Int)
 | 0, _, _, _, _, _ => none
 | k + 1, x1, x18, x620000, x620001, x620002 => if x18 = true then (some (-1)) else ((spec_DigitsOf.f k x1 x620000).bind fun t622 => ((spec_StateAfter.f k x620000 x620001 x620002 t622).bind fun t625 => (if 0 ≤ t625 then (if t625 < (x620002.length : Int) then (some (rd x620002 t625)) else (none)) else (none))))
def spec_TermAt.f (k : Nat) (a0_0 : Int) (l0_1 : List (List Int)) (l0_2 : List Int) (a1 : Int) : Option (Int) := if a1 < 0 then (spec_TermAt.j0 k a1 true a0_0 l0_1 l0_2) else ((spec_IsSequence.f k a0_0 l0_1 l0_2).bind fun t620 => (if t620 = true then ((spec_PowerOf.f k a0_0 16).bind fun t621 => (spec_TermAt.j0 k a1 (decide (a1 ≥ t621)) a0_0 l0_1 l0_2)) else (spec_TermAt.j0 k a1 true a0_0 l0_1 l0_2)))
theorem spec_TermAt.mono_l : ∀ k, (∀ y0 y1 y2 y3 y4, LeO (spec_TermAt.j0 k y0 y1 y2 y3 y4) (spec_TermAt.j0 (k + 1) y0 y1 y2 y3 y4))
 | 0 => fun _ _ _ _ _ r h => by simp [spec_TermAt.j0] at h
 | k + 1 => by
  have ih0 := spec_TermAt.mono_l k
  ·intro y0 y1 y2 y3 y4; unfold spec_TermAt.j0
   repeat' first
   | (with_reducible exact ih0 _ _ _ _ _)
   | (with_reducible exact spec_DigitsOf.mono _ _ _)
   | (with_reducible exact spec_IsSequence.mono _ _ _ _)
   | (with_reducible exact spec_PowerOf.mono _ _ _)
   | (with_reducible exact spec_StateAfter.mono _ _ _ _ _)
   | (with_reducible exact LeO.refl _)
   | (with_reducible exact LeO.none _)
   | (with_reducible refine LeO.ite ?_ ?_)
   | (with_reducible refine LeO.bind ?_ (fun _ => ?_))
   | exact ih0 _ _ _ _ _
   | exact spec_DigitsOf.mono _ _ _
   | exact spec_IsSequence.mono _ _ _ _
   | exact spec_PowerOf.mono _ _ _
   | exact spec_StateAfter.mono _ _ _ _ _
   | exact LeO.none _
   | refine LeO.ite ?_ ?_
   | refine LeO.bind ?_ (fun _ => ?_)
theorem spec_TermAt.mono : ∀ a0 a1 a2 a3 k, LeO (spec_TermAt.f k a0 a1 a2 a3) (spec_TermAt.f (k + 1) a0 a1 a2 a3) := by
 intro a0 a1 a2 a3 k; have ih0 := spec_TermAt.mono_l k; unfold spec_TermAt.f
 repeat' first
   | (with_reducible exact ih0 _ _ _ _ _)
   | (with_reducible exact spec_DigitsOf.mono _ _ _)
   | (with_reducible exact spec_IsSequence.mono _ _ _ _)
   | (with_reducible exact spec_PowerOf.mono _ _ _)
   | (with_reducible exact spec_StateAfter.mono _ _ _ _ _)
   | (with_reducible exact LeO.refl _)
   | (with_reducible exact LeO.none _)
   | (with_reducible refine LeO.ite ?_ ?_)
   | (with_reducible refine LeO.bind ?_ (fun _ => ?_))
   | exact ih0 _ _ _ _ _
   | exact spec_DigitsOf.mono _ _ _
   | exact spec_IsSequence.mono _ _ _ _
   | exact spec_PowerOf.mono _ _ _
   | exact spec_StateAfter.mono _ _ _ _ _
   | exact LeO.none _
   | refine LeO.ite ?_ ?_
   | refine LeO.bind ?_ (fun _ => ?_)
def spec_TermAt.T3 : Bool × List (List Nat × List Nat) := (true, [([], []), ([0], [0]), ([], []), ([], []), ([], []), ([4], [4]), ([3, 5], [3, 5]), ([2, 6, 6], [2, 6]), ([1, 7], [1, 7]), ([8], [8]), ([9, 7, 0, 1, 2, 3, 4, 5, 6, 7, 8, 9], [9])])
def spec_TermAt.B3 : List Nat := [0, 1, 0, 0, 0, 16, 56, 124, 255, 511, 1023]
theorem spec_TermAt.tab3 : rtab .any (opsOf Try.f71 3) = spec_TermAt.T3 := by kernel_rfl
theorem spec_TermAt.bits3 : waitsOk spec_TermAt.T3.2 spec_TermAt.B3 = true := by kernel_rfl
set_option maxHeartbeats 8000000 in
set_option maxRecDepth 100000 in
theorem spec_TermAt.calls (k : Nat) (a0_0 : Int) (A0_1 : Option Addr) (c0_1 : Nat) (l0_1 : List (List Int)) (A0_2 : Option Addr) (c0_2 : Nat) (l0_2 : List Int) (a1 : Int) (r : Int) (w : World) (hr0_1 : Kd.C (Kd.slice 3 (Kd.int .i64)) w A0_1 l0_1.length l0_1) (hc0_1 : l0_1.length ≤ c0_1) (hr0_2 : Kd.C (Kd.int .i64) w A0_2 l0_2.length l0_2) (hc0_2 : l0_2.length ≤ c0_2) (h : spec_TermAt.f k a0_0 l0_1 l0_2 a1 = some r) :
  Calls Try.prog 71 #[.agg #[.int .i64 a0_0, .slice A0_1 l0_1.length c0_1, .slice A0_2 l0_2.length c0_2], .int .i64 a1] w fun e w' => e = .returned (.int .i64 r) ∧ Below w.heap.size w w' := by
 have hu42 := Try.underlying42; have HR0_1 := yA hr0_1; have HC0_1 := yA hc0_1; clear hr0_1 hc0_1; have HR0_2 := yA hr0_2; have HC0_2 := yA hc0_2; clear hr0_2 hc0_2; have HB := yA (zV w.heap.size w); have H : (if a1 < 0 then (spec_TermAt.j0 k a1 true a0_0 l0_1 l0_2) else ((spec_IsSequence.f k a0_0 l0_1 l0_2).bind fun t620 => (if t620 = true then ((spec_PowerOf.f k a0_0 16).bind fun t621 => (spec_TermAt.j0 k a1 (decide (a1 ≥ t621)) a0_0 l0_1 l0_2)) else (spec_TermAt.j0 k a1 true a0_0 l0_1 l0_2)))) = some r := h; clear h; have HC3 := yA H; clear H; go_enter Try.func71, Try.ntmps71; go_upto_region 1 with (first | ((with_reducible refine gate_dst (N := 2) rfl ?_); refine box_event ?hg (N := 2) ?hd (cs := #[.int .i64 a0_0, .slice A0_1 l0_1.length c0_1, .slice A0_2 l0_2.length c0_2]) (t := 42) ?hr ?_; (case hd => rfl); (case hg => rfl); (case hr => first | (go_simp; done) | (go_simp; rfl)); intro gb619 hg w4 hbox hb; have n0_ := yA (zD (mB HB.out) hb); have n1_ := yA (hbox); have n2_ := yA ((by rw [hg]; exact (yX (mB HB.out)) : w.heap.size ≤ gb619)); have n3_ := yA ((by rw [hg]; exact (yX (mB HB.out)) : w.heap.size ≤ gb619)); clear HB; have HB := n0_; have BK619 := n1_; have GW619 := n2_; have GE619 := n3_; clear n0_ n1_ n2_ n3_; clear hb hbox hg))
 (try simp only [Act.put, zA, zB, zC])
 go_cut [18] (fun v18 wc => ∃ (kq : Nat) (x18_2 : Bool), v18 = .bool x18_2 ∧ Aside0 (spec_TermAt.j0 kq a1 x18_2 a0_0 l0_1 l0_2 = some r) ∧ Aside0 (kq ≤ k) ∧ Aside0 (wc.heap[gb619]? = some (.cells #[.int .i64 a0_0, (.slice A0_1 l0_1.length c0_1), (.slice A0_2 l0_2.length c0_2)] 42 (0, 0))) ∧ Aside0 (Below w.heap.size w wc))
 case first =>
  have H := HC3.out; clear HC3; by_cases c5 : a1 < 0
  ·rw [if_pos c5] at H; have c5b0 : decide (a1 < 0) = true := zH c5; clear c5; (first | rw [c5b0] | (simp only [i64_w, i32_w]; rw [c5b0]) | skip)
   have H' := yA H; clear H; go_wp2; go_meet
   case rel => exact ⟨_, (true), (by first | rfl | (simp; done) | (simp [*]; done)), H', ⟨by first | omega | exact zT _⟩, ⟨by (with_reducible repeat (first | refine yS ?_ _ | refine yT ?_ | refine yR ?_ _)); exact BK619.out⟩, ⟨by repeat (first | (with_reducible first | exact HB.out | apply yO | apply yN | apply yP | refine yQ ?_ GE619.out) | exact HB.out)⟩⟩
  rw [if_neg c5] at H; have c5b0 : decide (a1 < 0) = false := decide_eq_false c5; clear c5; (first | rw [c5b0] | (simp only [i64_w, i32_w]; rw [c5b0]) | skip)
  replace H := Option.bind_eq_some_iff.mp H; obtain ⟨t620, A60, H⟩ := H; replace H : (if t620 = true then ((spec_PowerOf.f k a0_0 16).bind fun t621 => (spec_TermAt.j0 k a1 (decide (a1 ≥ t621)) a0_0 l0_1 l0_2)) else (spec_TermAt.j0 k a1 true a0_0 l0_1 l0_2)) = some r := H; have A6 := yA A60; clear A60; by_cases c7 : t620 = true
  ·subst c7; have H1 : ((spec_PowerOf.f k a0_0 16).bind fun t621 => (spec_TermAt.j0 k a1 (decide (a1 ≥ t621)) a0_0 l0_1 l0_2)) = some r := by rw [if_pos rfl] at H; exact H
   clear H; have H := H1; clear H1; replace H := Option.bind_eq_some_iff.mp H; obtain ⟨t621, A80, H⟩ := H; replace H : (spec_TermAt.j0 k a1 (decide (a1 ≥ t621)) a0_0 l0_1 l0_2) = some r := H; have A8 := yA A80; clear A80; have H' := yA H; clear H; have hcz9_0 : w4.cell? ⟨gb619, 0, none⟩ = some (.int .i64 a0_0) := (yV BK619.out 0).trans rfl; have hcz9_1 : w4.cell? ⟨gb619, 1, none⟩ = some (.slice A0_1 l0_1.length c0_1) := (yV BK619.out 1).trans rfl; have hcz9_2 : w4.cell? ⟨gb619, 2, none⟩ = some (.slice A0_2 l0_2.length c0_2) := (yV BK619.out 2).trans rfl; have hfz9_0 := yW BK619.out 0; have hfz9_1 := yW BK619.out 1; have hfz9_2 := yW BK619.out 2; go_wp2_with (first | (go_at_call 61; (with_reducible refine (spec_IsSequence.calls k a0_0 _ _ l0_1 _ _ l0_2 true _ ?side1 ?side2 ?side3 ?side4 A6.out).mono ?_); (case side1 => exact mC (yM HR0_1.out HB.out)); (case side2 => exact HC0_1.out); (case side3 => exact mC (yM HR0_2.out HB.out)); (case side4 => exact HC0_2.out); rintro e w10 ⟨rfl, hb⟩; have n0_ := yA (yU (mK BK619.out) hb); have n1_ := yA (zD (by with_reducible repeat first | exact HB.out | apply yO | apply yN | apply yP | refine yQ ?_ GE619.out) hb); clear BK619; clear HB; have BK619 := n0_; have HB := n1_; clear n0_ n1_; (try clear hb); (try clear hb2); (try clear hk); (try clear hi); have hcz11_0 : w10.cell? ⟨gb619, 0, none⟩ = some (.int .i64 a0_0) := (yV BK619.out 0).trans rfl; have hcz11_1 : w10.cell? ⟨gb619, 1, none⟩ = some (.slice A0_1 l0_1.length c0_1) := (yV BK619.out 1).trans rfl; have hcz11_2 : w10.cell? ⟨gb619, 2, none⟩ = some (.slice A0_2 l0_2.length c0_2) := (yV BK619.out 2).trans rfl; have hfz11_0 := yW BK619.out 0; have hfz11_1 := yW BK619.out 1; have hfz11_2 := yW BK619.out 2) | (go_at_call 74; (with_reducible refine (spec_PowerOf.calls k a0_0 16 t621 _ A8.out).mono ?_); rintro e w' ⟨rfl, ⟨nd, rfl⟩⟩))
   go_meet
   case rel => exact ⟨_, (decide (a1 ≥ t621)), (by first | rfl | (simp; done) | (simp [*]; done)), H', ⟨by first | omega | exact zT _⟩, ⟨by (with_reducible repeat (first | refine yS ?_ _ | refine yT ?_ | refine yR ?_ _)); exact BK619.out⟩, ⟨by repeat (first | (with_reducible first | exact HB.out | apply yO | apply yN | apply yP | refine yQ ?_ GE619.out) | exact HB.out)⟩⟩
  replace c7 := Bool.eq_false_iff.mpr c7; subst c7; have H1 : (spec_TermAt.j0 k a1 true a0_0 l0_1 l0_2) = some r := by rw [if_neg (show ¬ (false = true) by decide)] at H; exact H
  clear H; have H := H1; clear H1; have H' := yA H; clear H; have hcz12_0 : w4.cell? ⟨gb619, 0, none⟩ = some (.int .i64 a0_0) := (yV BK619.out 0).trans rfl; have hcz12_1 : w4.cell? ⟨gb619, 1, none⟩ = some (.slice A0_1 l0_1.length c0_1) := (yV BK619.out 1).trans rfl; have hcz12_2 : w4.cell? ⟨gb619, 2, none⟩ = some (.slice A0_2 l0_2.length c0_2) := (yV BK619.out 2).trans rfl; have hfz12_0 := yW BK619.out 0; have hfz12_1 := yW BK619.out 1; have hfz12_2 := yW BK619.out 2; go_wp2_with (first | (go_at_call 61; (with_reducible refine (spec_IsSequence.calls k a0_0 _ _ l0_1 _ _ l0_2 false _ ?side1 ?side2 ?side3 ?side4 A6.out).mono ?_); (case side1 => exact mC (yM HR0_1.out HB.out)); (case side2 => exact HC0_1.out); (case side3 => exact mC (yM HR0_2.out HB.out)); (case side4 => exact HC0_2.out); rintro e w13 ⟨rfl, hb⟩; have n0_ := yA (yU (mK BK619.out) hb); have n1_ := yA (zD (by with_reducible repeat first | exact HB.out | apply yO | apply yN | apply yP | refine yQ ?_ GE619.out) hb); clear BK619; clear HB; have BK619 := n0_; have HB := n1_; clear n0_ n1_; (try clear hb); (try clear hb2); (try clear hk); (try clear hi)))
  go_meet
  case rel => exact ⟨_, (true), (by first | rfl | (simp; done) | (simp [*]; done)), H', ⟨by first | omega | exact zT _⟩, ⟨by (with_reducible repeat (first | refine yS ?_ _ | refine yT ?_ | refine yR ?_ _)); exact BK619.out⟩, ⟨by repeat (first | (with_reducible first | exact HB.out | apply yO | apply yN | apply yP | refine yQ ?_ GE619.out) | exact HB.out)⟩⟩
 case rest =>
  clear HC3; try clear p2
  try clear c5
  try clear c5b0
  try clear c7
  try clear hcz11_0
  try clear hcz11_1
  try clear hcz11_2
  try clear hcz12_0
  try clear hcz12_1
  try clear hcz12_2
  try clear hcz9_0
  try clear hcz9_1
  try clear hcz9_2
  try clear hfz11_0
  try clear hfz11_1
  try clear hfz11_2
  try clear hfz12_0
  try clear hfz12_1
  try clear hfz12_2
  try clear hfz9_0
  try clear hfz9_1
  try clear hfz9_2
  obtain ⟨kq, x18_2, rfl, HA, HJ2, BK619, HB⟩ := hcut; cases kq with
  | zero => exact absurd HA.out (by simp [spec_TermAt.j0])
  | succ kj2 =>
   have H := HA.out; clear HA; simp only [spec_TermAt.j0] at H; by_cases c14 : x18_2 = true
   ·subst c14; have H1 : (some (-1)) = some r := by rw [if_pos rfl] at H; exact H
    clear H; have H := H1; clear H1; obtain rfl := zU H; go_wp2; go_ret; exact ⟨by first | rfl | (simp [errW_none, errW_some] <;> rfl) | (simp [*, errW_none, errW_some] <;> rfl), by repeat (first | (with_reducible first | exact HB.out | apply yO | apply yN | apply yP | refine yQ ?_ GE619.out) | exact HB.out)⟩
   replace c14 := Bool.eq_false_iff.mpr c14; subst c14; have H1 : ((spec_DigitsOf.f kj2 a1 a0_0).bind fun t622 => ((spec_StateAfter.f kj2 a0_0 l0_1 l0_2 t622).bind fun t625 => (if 0 ≤ t625 then (if t625 < (l0_2.length : Int) then (some (rd l0_2 t625)) else (none)) else (none)))) = some r := by rw [if_neg (show ¬ (false = true) by decide)] at H; exact H
   clear H; have H := H1; clear H1; replace H := Option.bind_eq_some_iff.mp H; obtain ⟨t622, A150, H⟩ := H; replace H : ((spec_StateAfter.f kj2 a0_0 l0_1 l0_2 t622).bind fun t625 => (if 0 ≤ t625 then (if t625 < (l0_2.length : Int) then (some (rd l0_2 t625)) else (none)) else (none))) = some r := H; have A15 := yA A150; clear A150; replace H := Option.bind_eq_some_iff.mp H; obtain ⟨t625, A160, H⟩ := H; replace H : (if 0 ≤ t625 then (if t625 < (l0_2.length : Int) then (some (rd l0_2 t625)) else (none)) else (none)) = some r := H; have A16 := yA A160; clear A160; by_cases c17 : 0 ≤ t625
   ·rw [if_pos c17] at H; have c17b0 : decide (0 ≤ t625) = true := zH c17; clear c17; by_cases c18 : t625 < (l0_2.length : Int)
    ·rw [if_pos c18] at H; have c18b0 : decide (t625 < (l0_2.length : Int)) = true := zH c18; clear c18; obtain rfl := zU H; try go_wp2
     have n0_ := yA (yT BK619.out); have n1_ := yA (yP HB.out); clear BK619; clear HB; have BK619 := n0_; have HB := n1_; clear n0_ n1_; have p626 : 0 ≤ (t625 : Int) := zG (by first | (with_reducible assumption) | assumption); have q626 : t625 < (l0_2.length : Int) := zG (by first | (with_reducible assumption) | assumption); obtain ⟨ad626, e626, hx626_0⟩ := Kd.at_int HR0_2.out t625 p626 q626; have hw626_0 := hx626_0; cases e626; try replace hx626_0 := (HB.out.cell (zE w _ hx626_0)).trans hx626_0
     replace p626 := eq_true p626; replace q626 := eq_true q626; refine start_ (n := 11) (S := fun w' => w'.cell? ⟨gb619, 0, none⟩ = some (.int .i64 a0_0) ∧ w'.cell? ⟨gb619, 1, none⟩ = some (.slice A0_1 l0_1.length c0_1) ∧ w'.cell? ⟨gb619, 2, none⟩ = some (.slice (some ad626) l0_2.length c0_2) ∧ w'.cell? (ad626.add (t625).toNat) = some (.int .i64 (rd l0_2 t625))) (ds := []) #[false, false, false, false, false, false, false, false, false, false, false] (by kernel_rfl) rfl rfl ⟨(yV BK619.out 0).trans rfl, (yV BK619.out 1).trans rfl, (yV BK619.out 2).trans rfl, ((HB.out.cell (zE w _ hw626_0)).trans hw626_0)⟩ (fun hHeld => ?_); refine with_tabW spec_TermAt.tab3 spec_TermAt.bits3 (fun HT_ HW_ => ?_); generalize wc.drew = w19 at BK619 HB hx626_0 hHeld ⊢; refine pure_ (i := 0) (N := some 19) (v := ?_) (a' := ?_) #[true, false, false, false, false, false, false, false, false, false, false] rfl rfl (any_of HT_.out (by kernel_rfl)) (fun _ _ _ h => h) (Or.inl ⟨by rfl, ?_⟩) ?_ ?_; rotate_left
     ·intro w'; go_simp; with_reducible rfl
     rotate_left
     ·simp only [Act.put, zA, zB, zC, i64_w, i32_w]; rfl
     refine pure_ (i := 3) (N := some 22) (v := ?_) (a' := ?_) #[true, false, false, true, false, false, false, false, false, false, false] rfl rfl (any_of HT_.out (by kernel_rfl)) (fun _ _ _ h => h) (Or.inl ⟨by rfl, ?_⟩) ?_ ?_; rotate_left
     ·intro w'; go_simp; with_reducible rfl
     rotate_left
     ·simp only [Act.put, zA, zB, zC, i64_w, i32_w]; rfl
     refine pure_ (i := 4) (N := some 23) (v := ?_) (a' := ?_) #[true, false, false, true, true, false, false, false, false, false, false] rfl rfl (any_of HT_.out (by kernel_rfl)) (fun _ _ _ h => h) (Or.inl ⟨by rfl, ?_⟩) ?_ ?_; rotate_left
     ·intro w'; go_simp; with_reducible rfl
     rotate_left
     ·simp only [Act.put, zA, zB, zC, i64_w, i32_w]; rfl
     refine take_ (i := 1) (N := some 20) (v := ?_) (a' := ?_) #[true, true, false, true, true, false, false, false, false, false, false] rfl rfl (take_ofW HT_.out HW_.out (by kernel_rfl)) (fun _ _ _ h => h) (Or.inl ⟨by rfl, ?_⟩) hHeld ?_ ?_; rotate_left
     ·rintro w' ⟨s0, s1, s2, s3⟩; go_simp; with_reducible rfl
     rotate_left
     ·simp only [Act.put, zA, zB, zC, i64_w, i32_w]; rfl
     refine take_ (i := 2) (N := some 21) (v := ?_) (a' := ?_) #[true, true, true, true, true, false, false, false, false, false, false] rfl rfl (take_ofW HT_.out HW_.out (by kernel_rfl)) (fun _ _ _ h => h) (Or.inl ⟨by rfl, ?_⟩) hHeld ?_ ?_; rotate_left
     ·rintro w' ⟨s0, s1, s2, s3⟩; go_simp; with_reducible rfl
     rotate_left
     ·simp only [Act.put, zA, zB, zC, i64_w, i32_w]; rfl
     refine take_ (i := 5) (N := some 24) (v := ?_) (a' := ?_) #[true, true, true, true, true, true, false, false, false, false, false] rfl rfl (take_ofW HT_.out HW_.out (by kernel_rfl)) (fun _ _ _ h => h) (Or.inl ⟨by rfl, ?_⟩) hHeld ?_ ?_; rotate_left
     ·rintro w' ⟨s0, s1, s2, s3⟩; go_simp; with_reducible rfl
     rotate_left
     ·simp only [Act.put, zA, zB, zC, i64_w, i32_w]; rfl
     refine one_ (i := 6) (N := some 25) #[true, true, true, true, true, true, true, false, false, false, false] rfl rfl (one_of HT_.out (by kernel_rfl)) (by decide) (fun K hK => ?_); refine goes_ Try.func76 (by kernel_rfl) rfl #[.int .i64 a1, .int .i64 a0_0] (by rfl) rfl rfl (by (try simp only [zI, zJ, zK]); first | done | rfl | (simp only [zL, zM]; rfl)) ?_; with_reducible refine (spec_DigitsOf.calls kj2 a1 a0_0 t622 _ A15.out).mono ?_
     rintro e w20 ⟨v623, rfl, ho0, hb⟩; refine ⟨_, rfl, ?_⟩; have n0_ := yA (Kd.R_lower ho0 (yX (by with_reducible repeat first | exact HB.out | apply yO | apply yN | apply yP | refine yQ ?_ GE619.out))); have n1_ := yA (yU (mK BK619.out) hb); have n2_ := yA (zD (by with_reducible repeat first | exact HB.out | apply yO | apply yN | apply yP | refine yQ ?_ GE619.out) hb); clear BK619; clear HB; have HO624 := n0_; have BK619 := n1_; have HB := n2_; clear n0_ n1_ n2_; (try clear hb)
     (try clear hb2)
     (try clear hk)
     (try clear hi)
     (try clear ho0)
     obtain ⟨Ao21, co21, eo21⟩ := Kd.R_slice HO624.out; (first | subst eo21 | (injection eo21 with f1_ f2_ f3_; have f4_ := f1_.symm; have f5_ := f3_.symm; clear f1_ f2_ f3_; subst f4_; subst f5_))
     refine hK.out _ _ ⟨(yV BK619.out 0).trans rfl, (yV BK619.out 1).trans rfl, (yV BK619.out 2).trans rfl, ((HB.out.cell (zE w _ hw626_0)).trans hw626_0)⟩ (fun hHeld => ?_); clear hK K; refine norm_ (a' := ?_) ?_ ?_; rotate_left
     ·show Act.put _ (some 25) _ = _
      simp only [Act.put, zA, zB, zC, i64_w, i32_w]; rfl
     refine one_ (i := 7) (N := some 26) #[true, true, true, true, true, true, true, true, false, false, false] rfl rfl (one_of HT_.out (by kernel_rfl)) (by decide) (fun K hK => ?_); refine goes_ Try.func75 (by kernel_rfl) rfl #[.agg #[.int .i64 a0_0, .slice A0_1 l0_1.length c0_1, .slice (some ad626) l0_2.length c0_2], .slice Ao21 t622.length co21] (by rfl) rfl rfl (by (try simp only [zI, zJ, zK]); first | done | rfl | (simp only [zL, zM]; rfl)) ?_; with_reducible refine (spec_StateAfter.calls kj2 a0_0 _ _ l0_1 _ _ l0_2 _ _ t622 t625 _ ?side1 ?side2 ?side3 ?side4 ?side5 ?side6 A16.out).mono ?_
     (case side1 => exact mC (yM HR0_1.out HB.out))
     (case side2 => exact HC0_1.out)
     (case side3 => exact mC (yM HR0_2.out HB.out))
     (case side4 => exact HC0_2.out)
     (case side5 => exact mC ((zN HO624.out).2.2))
     (case side6 => exact (zN HO624.out).2.1)
     rintro e w22 ⟨rfl, hb⟩; refine ⟨_, rfl, ?_⟩; have n0_ := yA (yK (mR HO624.out) hb); have n1_ := yA (yU (mK BK619.out) hb); have n2_ := yA (zD (by with_reducible repeat first | exact HB.out | apply yO | apply yN | apply yP | refine yQ ?_ GE619.out) hb); clear HO624; clear BK619; clear HB; have HO624 := n0_; have BK619 := n1_; have HB := n2_; clear n0_ n1_ n2_; (try clear hb)
     (try clear hb2)
     (try clear hk)
     (try clear hi)
     refine hK.out _ _ ⟨(yV BK619.out 0).trans rfl, (yV BK619.out 1).trans rfl, (yV BK619.out 2).trans rfl, ((HB.out.cell (zE w _ hw626_0)).trans hw626_0)⟩ (fun hHeld => ?_); clear hK K; refine norm_ (a' := ?_) ?_ ?_; rotate_left
     ·show Act.put _ (some 26) _ = _
      simp only [Act.put, zA, zB, zC, i64_w, i32_w]; rfl
     refine pure_ (i := 8) (N := some 27) (v := ?_) (a' := ?_) #[true, true, true, true, true, true, true, true, true, false, false] rfl rfl (any_of HT_.out (by kernel_rfl)) (fun _ _ _ h => h) (Or.inl ⟨by rfl, ?_⟩) ?_ ?_; rotate_left
     ·intro w'; go_simp; with_reducible rfl
     rotate_left
     ·simp only [Act.put, zA, zB, zC, i64_w, i32_w]; rfl
     refine take_ (i := 9) (N := some 28) (v := ?_) (a' := ?_) #[true, true, true, true, true, true, true, true, true, true, false] rfl rfl (take_ofW HT_.out HW_.out (by kernel_rfl)) (fun _ _ _ h => h) (Or.inl ⟨by rfl, ?_⟩) hHeld ?_ ?_; rotate_left
     ·rintro w' ⟨s0, s1, s2, s3⟩; go_simp; with_reducible rfl
     rotate_left
     ·simp only [Act.put, zA, zB, zC, i64_w, i32_w]; rfl
     refine pure_ (i := 10) (N := some 4) (v := ?_) (a' := ?_) #[true, true, true, true, true, true, true, true, true, true, true] rfl rfl (any_of HT_.out (by kernel_rfl)) (fun _ _ _ h => h) (Or.inl ⟨by rfl, ?_⟩) ?_ ?_; rotate_left
     ·intro w'; go_simp; with_reducible rfl
     rotate_left
     ·simp only [Act.put, zA, zB, zC, i64_w, i32_w]; rfl
     refine done_ (done_of HT_.out (by kernel_rfl)) ?_; try go_wp2
     go_ret; exact ⟨by first | rfl | (simp [errW_none, errW_some] <;> rfl) | (simp [*, errW_none, errW_some] <;> rfl), by repeat (first | (with_reducible first | exact HB.out | apply yO | apply yN | apply yP | refine yQ ?_ GE619.out) | exact HB.out)⟩
    rw [if_neg c18] at H; exact absurd H (by simp)
   rw [if_neg c17] at H; exact absurd H (by simp)

end Go.Proofs.Ytdckaflfgbbabaa.Q
