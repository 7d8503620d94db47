-- written by a program of this session (a turned copy of the kit's print) out of the translation
-- squeezed
-- compact
import Derived.Test.YtdckaflfgbbabaaDoorQ0
import Derived.Test.YtdckaflfgbbabaaDoorQ1
namespace Go.Proofs.YtdckaflfgbbabaaDoor.Q
open Go.RowKit Go.Proofs.YtdckaflfgbbabaaDoorW.PrintWords Go.Proofs.YtdckaflfgbbabaaDoorW.PrintLast Go.Proofs.YtdckaflfgbbabaaDoorW.PrintMore
attribute [local go_sem] max2_int min2_int max_two min_two max_three min_three max_four min_four   -- for this text's walks alone
set_option linter.unusedVariables false
set_option linter.unusedSimpArgs false

/-! ### spec_l16Node: function 19 -/
mutual
def spec_l16Node.j0 : Nat → Int → Int → Int → Bool → Int → Int → Int → Int → Option (Bool)
 | 0, _, _, _, _, _, _, _, _ => none
 | k + 1, x1, x5, x7, x8, x102000, x102001, x102002, x102003 => if x8 = true then ((spec_l1In.f x102001 0 x5).bind fun t102 => (if t102 = true then ((spec_l1In.f x102002 0 x5).bind fun t103 => (if t103 = true then (some (x102003 == 0)) else (some false))) else (some false))) else (if x7 = 3 then ((spec_l1In.f x102001 0 x5).bind fun t104 => (if t104 = true then ((spec_l1In.f x102002 0 x5).bind fun t105 => (if t105 = true then ((spec_l1In.f x102003 0 x5).bind fun t106 => (some t106)) else (some false))) else (some false))) else (if x7 = 4 then ((spec_l1In.f x102001 0 x5).bind fun t107 => (if t107 = true then ((spec_l1In.f x102002 0 255).bind fun t108 => (if t108 = true then (some (x102003 == 0)) else (some false))) else (some false))) else (if x7 = 5 then ((spec_l1In.f x102001 0 x5).bind fun t109 => (if t109 = true then ((spec_l1In.f x102002 0 3).bind fun t110 => (if t110 = true then (some (x102003 == 0)) else (some false))) else (some false))) else (if x7 = 6 then (if x102001 ≥ 0 then (if x102001 < x1 then (if x102002 = 0 then (some (x102003 == 0)) else (some false)) else (some false)) else (some false)) else (if x7 = 7 then (spec_l16Node.j1 k x1 x5 x7 (x7 == 7) x102000 x102001 x102002 x102003) else (spec_l16Node.j1 k x1 x5 x7 (x7 == 8) x102000 x102001 x102002 x102003))))))
def spec_l16Node.j1 : Nat → Int → Int → Int → Bool → Int → Int → Int → Int → Option (Bool)
 | 0, _, _, _, _, _, _, _, _ => none
 | k + 1, x1, x5, x7, x97, x102000, x102001, x102002, x102003 => if x97 = true then (if x102001 ≥ 0 then (if x102001 < x1 then (if x102002 ≥ 0 then (if x102002 < x1 then (some (x102003 == 0)) else (some false)) else (some false)) else (some false)) else (some false)) else (if x7 = 9 then ((spec_l1In.f x102001 0 x5).bind fun t111 => (if t111 = true then (if x102002 ≥ 0 then (if x102002 < x1 then (some (x102003 == 0)) else (some false)) else (some false)) else (some false))) else (if x7 = 10 then ((spec_l1In.f x102001 0 x5).bind fun t112 => (if t112 = true then (if x102002 ≥ 0 then (if x102002 < x1 then (some (x102003 == 0)) else (some false)) else (some false)) else (some false))) else (some false)))
end
def spec_l16Node.f (k : Nat) (a0_0 : Int) (a0_1 : Int) (a0_2 : Int) (a0_3 : Int) (a1 : Int) : Option (Bool) := if a0_0 = 1 then (spec_l16Node.j0 k a1 2 a0_0 (a0_0 == 1) a0_0 a0_1 a0_2 a0_3) else (spec_l16Node.j0 k a1 2 a0_0 (a0_0 == 2) a0_0 a0_1 a0_2 a0_3)
theorem spec_l16Node.mono_l : ∀ k, (∀ y0 y1 y2 y3 y4 y5 y6 y7, LeO (spec_l16Node.j0 k y0 y1 y2 y3 y4 y5 y6 y7) (spec_l16Node.j0 (k + 1) y0 y1 y2 y3 y4 y5 y6 y7)) ∧ (∀ y0 y1 y2 y3 y4 y5 y6 y7, LeO (spec_l16Node.j1 k y0 y1 y2 y3 y4 y5 y6 y7) (spec_l16Node.j1 (k + 1) y0 y1 y2 y3 y4 y5 y6 y7))
 | 0 => ⟨fun _ _ _ _ _ _ _ _ r h => by simp [spec_l16Node.j0] at h, fun _ _ _ _ _ _ _ _ r h => by simp [spec_l16Node.j1] at h⟩
 | k + 1 => by
  obtain ⟨ih0, ih1⟩ := spec_l16Node.mono_l k
  refine ⟨?_, ?_⟩
  ·intro y0 y1 y2 y3 y4 y5 y6 y7
   unfold spec_l16Node.j0
   repeat' first
   | (with_reducible exact ih0 _ _ _ _ _ _ _ _)
   | (with_reducible exact ih1 _ _ _ _ _ _ _ _)
   | (with_reducible exact LeO.refl _)
   | (with_reducible exact LeO.none _)
   | (with_reducible refine LeO.ite ?_ ?_)
   | (with_reducible refine LeO.bind ?_ (fun _ => ?_))
   | exact ih0 _ _ _ _ _ _ _ _
   | exact ih1 _ _ _ _ _ _ _ _
   | exact LeO.none _
   | refine LeO.ite ?_ ?_
   | refine LeO.bind ?_ (fun _ => ?_)
  ·intro y0 y1 y2 y3 y4 y5 y6 y7
   unfold spec_l16Node.j1
   repeat' first
   | (with_reducible exact ih0 _ _ _ _ _ _ _ _)
   | (with_reducible exact ih1 _ _ _ _ _ _ _ _)
   | (with_reducible exact LeO.refl _)
   | (with_reducible exact LeO.none _)
   | (with_reducible refine LeO.ite ?_ ?_)
   | (with_reducible refine LeO.bind ?_ (fun _ => ?_))
   | exact ih0 _ _ _ _ _ _ _ _
   | exact ih1 _ _ _ _ _ _ _ _
   | exact LeO.none _
   | refine LeO.ite ?_ ?_
   | refine LeO.bind ?_ (fun _ => ?_)
theorem spec_l16Node.mono : ∀ a0 a1 a2 a3 a4 k, LeO (spec_l16Node.f k a0 a1 a2 a3 a4) (spec_l16Node.f (k + 1) a0 a1 a2 a3 a4) := by
 intro a0 a1 a2 a3 a4 k
 obtain ⟨ih0, ih1⟩ := spec_l16Node.mono_l k
 unfold spec_l16Node.f
 repeat' first
   | (with_reducible exact ih0 _ _ _ _ _ _ _ _)
   | (with_reducible exact ih1 _ _ _ _ _ _ _ _)
   | (with_reducible exact LeO.refl _)
   | (with_reducible exact LeO.none _)
   | (with_reducible refine LeO.ite ?_ ?_)
   | (with_reducible refine LeO.bind ?_ (fun _ => ?_))
   | exact ih0 _ _ _ _ _ _ _ _
   | exact ih1 _ _ _ _ _ _ _ _
   | exact LeO.none _
   | refine LeO.ite ?_ ?_
   | refine LeO.bind ?_ (fun _ => ?_)
set_option maxHeartbeats 8000000 in
set_option maxRecDepth 100000 in
theorem spec_l16Node.calls (k : Nat) (a0_0 : Int) (a0_1 : Int) (a0_2 : Int) (a0_3 : Int) (a1 : Int) (r : Bool) (w : World) (h : spec_l16Node.f k a0_0 a0_1 a0_2 a0_3 a1 = some r) :
  Calls Tryd.prog 19 #[.agg #[.int .i64 a0_0, .int .i64 a0_1, .int .i64 a0_2, .int .i64 a0_3], .int .i64 a1] w fun e w' => e = .returned (.bool r) ∧ Below w.heap.size w w' := by
 have hu33 := Tryd.underlying33
 have HB := yA (zV w.heap.size w)
 have H : (if a0_0 = 1 then (spec_l16Node.j0 k a1 2 a0_0 (a0_0 == 1) a0_0 a0_1 a0_2 a0_3) else (spec_l16Node.j0 k a1 2 a0_0 (a0_0 == 2) a0_0 a0_1 a0_2 a0_3)) = some r := h
 clear h
 have HC3 := yA H
 clear H
 go_enter Tryd.func19, Tryd.ntmps19
 go_upto_if 8 with (first | ((with_reducible refine gate_dst (N := 2) rfl ?_); refine box_event ?hg (N := 2) ?hd (cs := #[.int .i64 a0_0, .int .i64 a0_1, .int .i64 a0_2, .int .i64 a0_3]) (t := 33) ?hr ?_; (case hd => rfl); (case hg => rfl); (case hr => first | (go_simp; done) | (go_simp; rfl)); intro gb101 hg w4 hbox hb; have n0_ := yA (zD (mB HB.out) hb); have n1_ := yA (hbox); have n2_ := yA ((by rw [hg]; exact (yX (mB HB.out)) : w.heap.size ≤ gb101)); have n3_ := yA ((by rw [hg]; exact (yX (mB HB.out)) : w.heap.size ≤ gb101)); clear HB; have HB := n0_; have BK101 := n1_; have GW101 := n2_; have GE101 := n3_; clear n0_ n1_ n2_ n3_; clear hb hbox hg; have hcz5_0 : w4.cell? ⟨gb101, 0, none⟩ = some (.int .i64 a0_0) := (yV BK101.out 0).trans rfl; have hcz5_1 : w4.cell? ⟨gb101, 1, none⟩ = some (.int .i64 a0_1) := (yV BK101.out 1).trans rfl; have hcz5_2 : w4.cell? ⟨gb101, 2, none⟩ = some (.int .i64 a0_2) := (yV BK101.out 2).trans rfl; have hcz5_3 : w4.cell? ⟨gb101, 3, none⟩ = some (.int .i64 a0_3) := (yV BK101.out 3).trans rfl; have hfz5_0 := yW BK101.out 0; have hfz5_1 := yW BK101.out 1; have hfz5_2 := yW BK101.out 2; have hfz5_3 := yW BK101.out 3))
 (try simp only [Act.put, zA, zB, zC])
 go_cut [8] (fun v8 wc => ∃ (kq : Nat) (x8_2 : Bool), v8 = .bool x8_2 ∧ Aside0 (spec_l16Node.j0 kq a1 2 a0_0 x8_2 a0_0 a0_1 a0_2 a0_3 = some r) ∧ Aside0 (kq ≤ k) ∧ Aside0 (wc.heap[gb101]? = some (.cells #[.int .i64 a0_0, .int .i64 a0_1, .int .i64 a0_2, .int .i64 a0_3] 33 (0, 0))) ∧ Aside0 (Below w.heap.size w wc))
 case first =>
  have H := HC3.out
  clear HC3
  by_cases c6 : a0_0 = 1
  ·rw [if_pos c6] at H
   have c6b0 : (a0_0 == 1) = true := beq_iff_eq.mpr c6
   have c6b1 : (a0_0 != 1) = false := bne_eq_false_iff_eq.mpr c6
   clear c6
   (first | rw [c6b0] | (simp only [i64_w, i32_w]; rw [c6b0]) | skip)
   have H' := yA H
   clear H
   go_wp2
   go_meet
   case rel => exact ⟨_, ((a0_0 == 1)), (by first | rfl | (simp; done) | (simp [*]; done)), H', ⟨by first | omega | exact zT _⟩, ⟨by (with_reducible repeat (first | refine yS ?_ _ | refine yT ?_ | refine yR ?_ _)); exact BK101.out⟩, ⟨by repeat (first | (with_reducible first | exact HB.out | apply yO | apply yN | apply yP | refine yQ ?_ GE101.out) | exact HB.out)⟩⟩
  ·rw [if_neg c6] at H
   have c6b0 : (a0_0 == 1) = false := beq_eq_false_iff_ne.mpr c6
   have c6b1 : (a0_0 != 1) = true := bne_iff_ne.mpr c6
   (first | rw [c6b0] | (simp only [i64_w, i32_w]; rw [c6b0]) | skip)
   have H' := yA H
   clear H
   go_wp2
   go_meet
   case rel => exact ⟨_, ((a0_0 == 2)), (by first | rfl | (simp; done) | (simp [*]; done)), H', ⟨by first | omega | exact zT _⟩, ⟨by (with_reducible repeat (first | refine yS ?_ _ | refine yT ?_ | refine yR ?_ _)); exact BK101.out⟩, ⟨by repeat (first | (with_reducible first | exact HB.out | apply yO | apply yN | apply yP | refine yQ ?_ GE101.out) | exact HB.out)⟩⟩
 case rest =>
  clear HC3
  try clear c1
  try clear p2
  try clear c6
  try clear c6b0
  try clear c6b1
  try clear hcz5_0
  try clear hcz5_1
  try clear hcz5_2
  try clear hcz5_3
  try clear hfz5_0
  try clear hfz5_1
  try clear hfz5_2
  try clear hfz5_3
  obtain ⟨kq, x8_2, rfl, HA, HJ2, BK101, HB⟩ := hcut
  cases kq with
  | zero => exact absurd HA.out (by simp [spec_l16Node.j0])
  | succ kj2 =>
   have H := HA.out
   clear HA
   simp only [spec_l16Node.j0] at H
   by_cases c7 : x8_2 = true
   ·subst c7
    have H1 : ((spec_l1In.f a0_1 0 2).bind fun t102 => (if t102 = true then ((spec_l1In.f a0_2 0 2).bind fun t103 => (if t103 = true then (some (a0_3 == 0)) else (some false))) else (some false))) = some r := by rw [if_pos rfl] at H; exact H
    clear H
    have H := H1
    clear H1
    replace H := Option.bind_eq_some_iff.mp H
    obtain ⟨t102, A80, H⟩ := H
    replace H : (if t102 = true then ((spec_l1In.f a0_2 0 2).bind fun t103 => (if t103 = true then (some (a0_3 == 0)) else (some false))) else (some false)) = some r := H
    have A8 := yA A80
    clear A80
    by_cases c9 : t102 = true
    ·subst c9
     have H1 : ((spec_l1In.f a0_2 0 2).bind fun t103 => (if t103 = true then (some (a0_3 == 0)) else (some false))) = some r := by rw [if_pos rfl] at H; exact H
     clear H
     have H := H1
     clear H1
     replace H := Option.bind_eq_some_iff.mp H
     obtain ⟨t103, A100, H⟩ := H
     replace H : (if t103 = true then (some (a0_3 == 0)) else (some false)) = some r := H
     have A10 := yA A100
     clear A100
     by_cases c11 : t103 = true
     ·subst c11
      have H1 : (some (a0_3 == 0)) = some r := by rw [if_pos rfl] at H; exact H
      clear H
      have H := H1
      clear H1
      obtain rfl := zU H
      have hcz12_0 : wc.cell? ⟨gb101, 0, none⟩ = some (.int .i64 a0_0) := (yV BK101.out 0).trans rfl
      have hcz12_1 : wc.cell? ⟨gb101, 1, none⟩ = some (.int .i64 a0_1) := (yV BK101.out 1).trans rfl
      have hcz12_2 : wc.cell? ⟨gb101, 2, none⟩ = some (.int .i64 a0_2) := (yV BK101.out 2).trans rfl
      have hcz12_3 : wc.cell? ⟨gb101, 3, none⟩ = some (.int .i64 a0_3) := (yV BK101.out 3).trans rfl
      have hfz12_0 := yW BK101.out 0
      have hfz12_1 := yW BK101.out 1
      have hfz12_2 := yW BK101.out 2
      have hfz12_3 := yW BK101.out 3
      go_wp2_with (first | ((with_reducible refine zS (f := 18) rfl ?_); refine goesL_ (some 14) rfl rfl Tryd.func18 (by kernel_rfl) rfl #[.int .i64 a0_1, .int .i64 0, .int .i64 2] rfl (by (try simp only [zI, zJ, zK]); first | done | rfl | (simp only [zL, zM]; rfl)) ?_; (with_reducible refine (spec_l1In.calls a0_1 0 2 true _ A8.out).mono ?_); rintro e w' ⟨rfl, ⟨nd, rfl⟩⟩; refine ⟨_, rfl, ?_⟩) | (go_at_call 18; (with_reducible refine (spec_l1In.calls a0_2 0 2 true _ A10.out).mono ?_); rintro e w' ⟨rfl, ⟨nd, rfl⟩⟩))
      go_ret
      exact ⟨by first | rfl | (simp [errW_none, errW_some] <;> rfl) | (simp [*, errW_none, errW_some] <;> rfl), by repeat (first | (with_reducible first | exact HB.out | apply yO | apply yN | apply yP | refine yQ ?_ GE101.out) | exact HB.out)⟩
     ·replace c11 := Bool.eq_false_iff.mpr c11
      subst c11
      have H1 : (some false) = some r := by rw [if_neg (show ¬ (false = true) by decide)] at H; exact H
      clear H
      have H := H1
      clear H1
      obtain rfl := zU H
      have hcz13_0 : wc.cell? ⟨gb101, 0, none⟩ = some (.int .i64 a0_0) := (yV BK101.out 0).trans rfl
      have hcz13_1 : wc.cell? ⟨gb101, 1, none⟩ = some (.int .i64 a0_1) := (yV BK101.out 1).trans rfl
      have hcz13_2 : wc.cell? ⟨gb101, 2, none⟩ = some (.int .i64 a0_2) := (yV BK101.out 2).trans rfl
      have hcz13_3 : wc.cell? ⟨gb101, 3, none⟩ = some (.int .i64 a0_3) := (yV BK101.out 3).trans rfl
      have hfz13_0 := yW BK101.out 0
      have hfz13_1 := yW BK101.out 1
      have hfz13_2 := yW BK101.out 2
      have hfz13_3 := yW BK101.out 3
      go_wp2_with (first | ((with_reducible refine zS (f := 18) rfl ?_); refine goesL_ (some 14) rfl rfl Tryd.func18 (by kernel_rfl) rfl #[.int .i64 a0_1, .int .i64 0, .int .i64 2] rfl (by (try simp only [zI, zJ, zK]); first | done | rfl | (simp only [zL, zM]; rfl)) ?_; (with_reducible refine (spec_l1In.calls a0_1 0 2 true _ A8.out).mono ?_); rintro e w' ⟨rfl, ⟨nd, rfl⟩⟩; refine ⟨_, rfl, ?_⟩) | (go_at_call 18; (with_reducible refine (spec_l1In.calls a0_2 0 2 false _ A10.out).mono ?_); rintro e w' ⟨rfl, ⟨nd, rfl⟩⟩))
      go_ret
      exact ⟨by first | rfl | (simp [errW_none, errW_some] <;> rfl) | (simp [*, errW_none, errW_some] <;> rfl), by repeat (first | (with_reducible first | exact HB.out | apply yO | apply yN | apply yP | refine yQ ?_ GE101.out) | exact HB.out)⟩
    ·replace c9 := Bool.eq_false_iff.mpr c9
     subst c9
     have H1 : (some false) = some r := by rw [if_neg (show ¬ (false = true) by decide)] at H; exact H
     clear H
     have H := H1
     clear H1
     obtain rfl := zU H
     have hcz14_0 : wc.cell? ⟨gb101, 0, none⟩ = some (.int .i64 a0_0) := (yV BK101.out 0).trans rfl
     have hcz14_1 : wc.cell? ⟨gb101, 1, none⟩ = some (.int .i64 a0_1) := (yV BK101.out 1).trans rfl
     have hcz14_2 : wc.cell? ⟨gb101, 2, none⟩ = some (.int .i64 a0_2) := (yV BK101.out 2).trans rfl
     have hcz14_3 : wc.cell? ⟨gb101, 3, none⟩ = some (.int .i64 a0_3) := (yV BK101.out 3).trans rfl
     have hfz14_0 := yW BK101.out 0
     have hfz14_1 := yW BK101.out 1
     have hfz14_2 := yW BK101.out 2
     have hfz14_3 := yW BK101.out 3
     go_wp2_with (first | ((with_reducible refine zS (f := 18) rfl ?_); refine goesL_ (some 14) rfl rfl Tryd.func18 (by kernel_rfl) rfl #[.int .i64 a0_1, .int .i64 0, .int .i64 2] rfl (by (try simp only [zI, zJ, zK]); first | done | rfl | (simp only [zL, zM]; rfl)) ?_; (with_reducible refine (spec_l1In.calls a0_1 0 2 false _ A8.out).mono ?_); rintro e w' ⟨rfl, ⟨nd, rfl⟩⟩; refine ⟨_, rfl, ?_⟩))
     go_ret
     exact ⟨by first | rfl | (simp [errW_none, errW_some] <;> rfl) | (simp [*, errW_none, errW_some] <;> rfl), by repeat (first | (with_reducible first | exact HB.out | apply yO | apply yN | apply yP | refine yQ ?_ GE101.out) | exact HB.out)⟩
   ·replace c7 := Bool.eq_false_iff.mpr c7
    subst c7
    have H1 : (if a0_0 = 3 then ((spec_l1In.f a0_1 0 2).bind fun t104 => (if t104 = true then ((spec_l1In.f a0_2 0 2).bind fun t105 => (if t105 = true then ((spec_l1In.f a0_3 0 2).bind fun t106 => (some t106)) else (some false))) else (some false))) else (if a0_0 = 4 then ((spec_l1In.f a0_1 0 2).bind fun t107 => (if t107 = true then ((spec_l1In.f a0_2 0 255).bind fun t108 => (if t108 = true then (some (a0_3 == 0)) else (some false))) else (some false))) else (if a0_0 = 5 then ((spec_l1In.f a0_1 0 2).bind fun t109 => (if t109 = true then ((spec_l1In.f a0_2 0 3).bind fun t110 => (if t110 = true then (some (a0_3 == 0)) else (some false))) else (some false))) else (if a0_0 = 6 then (if a0_1 ≥ 0 then (if a0_1 < a1 then (if a0_2 = 0 then (some (a0_3 == 0)) else (some false)) else (some false)) else (some false)) else (if a0_0 = 7 then (spec_l16Node.j1 kj2 a1 2 a0_0 (a0_0 == 7) a0_0 a0_1 a0_2 a0_3) else (spec_l16Node.j1 kj2 a1 2 a0_0 (a0_0 == 8) a0_0 a0_1 a0_2 a0_3)))))) = some r := by rw [if_neg (show ¬ (false = true) by decide)] at H; exact H
    clear H
    have H := H1
    clear H1
    by_cases c15 : a0_0 = 3
    ·rw [if_pos c15] at H
     have c15b0 : (a0_0 == 3) = true := beq_iff_eq.mpr c15
     have c15b1 : (a0_0 != 3) = false := bne_eq_false_iff_eq.mpr c15
     clear c15
     replace H := Option.bind_eq_some_iff.mp H
     obtain ⟨t104, A160, H⟩ := H
     replace H : (if t104 = true then ((spec_l1In.f a0_2 0 2).bind fun t105 => (if t105 = true then ((spec_l1In.f a0_3 0 2).bind fun t106 => (some t106)) else (some false))) else (some false)) = some r := H
     have A16 := yA A160
     clear A160
     by_cases c17 : t104 = true
     ·subst c17
      have H1 : ((spec_l1In.f a0_2 0 2).bind fun t105 => (if t105 = true then ((spec_l1In.f a0_3 0 2).bind fun t106 => (some t106)) else (some false))) = some r := by rw [if_pos rfl] at H; exact H
      clear H
      have H := H1
      clear H1
      replace H := Option.bind_eq_some_iff.mp H
      obtain ⟨t105, A180, H⟩ := H
      replace H : (if t105 = true then ((spec_l1In.f a0_3 0 2).bind fun t106 => (some t106)) else (some false)) = some r := H
      have A18 := yA A180
      clear A180
      by_cases c19 : t105 = true
      ·subst c19
       have H1 : ((spec_l1In.f a0_3 0 2).bind fun t106 => (some t106)) = some r := by rw [if_pos rfl] at H; exact H
       clear H
       have H := H1
       clear H1
       replace H := Option.bind_eq_some_iff.mp H
       obtain ⟨t106, A200, H⟩ := H
       replace H : (some t106) = some r := H
       have A20 := yA A200
       clear A200
       obtain rfl := zU H
       have hcz21_0 : wc.cell? ⟨gb101, 0, none⟩ = some (.int .i64 a0_0) := (yV BK101.out 0).trans rfl
       have hcz21_1 : wc.cell? ⟨gb101, 1, none⟩ = some (.int .i64 a0_1) := (yV BK101.out 1).trans rfl
       have hcz21_2 : wc.cell? ⟨gb101, 2, none⟩ = some (.int .i64 a0_2) := (yV BK101.out 2).trans rfl
       have hcz21_3 : wc.cell? ⟨gb101, 3, none⟩ = some (.int .i64 a0_3) := (yV BK101.out 3).trans rfl
       have hfz21_0 := yW BK101.out 0
       have hfz21_1 := yW BK101.out 1
       have hfz21_2 := yW BK101.out 2
       have hfz21_3 := yW BK101.out 3
       go_wp2_with (first | ((with_reducible refine zS (f := 18) rfl ?_); refine goesL_ (some 31) rfl rfl Tryd.func18 (by kernel_rfl) rfl #[.int .i64 a0_1, .int .i64 0, .int .i64 2] rfl (by (try simp only [zI, zJ, zK]); first | done | rfl | (simp only [zL, zM]; rfl)) ?_; (with_reducible refine (spec_l1In.calls a0_1 0 2 true _ A16.out).mono ?_); rintro e w' ⟨rfl, ⟨nd, rfl⟩⟩; refine ⟨_, rfl, ?_⟩) | (go_at_call 18; (with_reducible refine (spec_l1In.calls a0_2 0 2 true _ A18.out).mono ?_); rintro e w' ⟨rfl, ⟨nd, rfl⟩⟩) | (go_at_call 18; (with_reducible refine (spec_l1In.calls a0_3 0 2 t106 _ A20.out).mono ?_); rintro e w' ⟨rfl, ⟨nd, rfl⟩⟩))
       go_ret
       exact ⟨by first | rfl | (simp [errW_none, errW_some] <;> rfl) | (simp [*, errW_none, errW_some] <;> rfl), by repeat (first | (with_reducible first | exact HB.out | apply yO | apply yN | apply yP | refine yQ ?_ GE101.out) | exact HB.out)⟩
      ·replace c19 := Bool.eq_false_iff.mpr c19
       subst c19
       have H1 : (some false) = some r := by rw [if_neg (show ¬ (false = true) by decide)] at H; exact H
       clear H
       have H := H1
       clear H1
       obtain rfl := zU H
       have hcz22_0 : wc.cell? ⟨gb101, 0, none⟩ = some (.int .i64 a0_0) := (yV BK101.out 0).trans rfl
       have hcz22_1 : wc.cell? ⟨gb101, 1, none⟩ = some (.int .i64 a0_1) := (yV BK101.out 1).trans rfl
       have hcz22_2 : wc.cell? ⟨gb101, 2, none⟩ = some (.int .i64 a0_2) := (yV BK101.out 2).trans rfl
       have hcz22_3 : wc.cell? ⟨gb101, 3, none⟩ = some (.int .i64 a0_3) := (yV BK101.out 3).trans rfl
       have hfz22_0 := yW BK101.out 0
       have hfz22_1 := yW BK101.out 1
       have hfz22_2 := yW BK101.out 2
       have hfz22_3 := yW BK101.out 3
       go_wp2_with (first | ((with_reducible refine zS (f := 18) rfl ?_); refine goesL_ (some 31) rfl rfl Tryd.func18 (by kernel_rfl) rfl #[.int .i64 a0_1, .int .i64 0, .int .i64 2] rfl (by (try simp only [zI, zJ, zK]); first | done | rfl | (simp only [zL, zM]; rfl)) ?_; (with_reducible refine (spec_l1In.calls a0_1 0 2 true _ A16.out).mono ?_); rintro e w' ⟨rfl, ⟨nd, rfl⟩⟩; refine ⟨_, rfl, ?_⟩) | (go_at_call 18; (with_reducible refine (spec_l1In.calls a0_2 0 2 false _ A18.out).mono ?_); rintro e w' ⟨rfl, ⟨nd, rfl⟩⟩))
       go_ret
       exact ⟨by first | rfl | (simp [errW_none, errW_some] <;> rfl) | (simp [*, errW_none, errW_some] <;> rfl), by repeat (first | (with_reducible first | exact HB.out | apply yO | apply yN | apply yP | refine yQ ?_ GE101.out) | exact HB.out)⟩
     ·replace c17 := Bool.eq_false_iff.mpr c17
      subst c17
      have H1 : (some false) = some r := by rw [if_neg (show ¬ (false = true) by decide)] at H; exact H
      clear H
      have H := H1
      clear H1
      obtain rfl := zU H
      have hcz23_0 : wc.cell? ⟨gb101, 0, none⟩ = some (.int .i64 a0_0) := (yV BK101.out 0).trans rfl
      have hcz23_1 : wc.cell? ⟨gb101, 1, none⟩ = some (.int .i64 a0_1) := (yV BK101.out 1).trans rfl
      have hcz23_2 : wc.cell? ⟨gb101, 2, none⟩ = some (.int .i64 a0_2) := (yV BK101.out 2).trans rfl
      have hcz23_3 : wc.cell? ⟨gb101, 3, none⟩ = some (.int .i64 a0_3) := (yV BK101.out 3).trans rfl
      have hfz23_0 := yW BK101.out 0
      have hfz23_1 := yW BK101.out 1
      have hfz23_2 := yW BK101.out 2
      have hfz23_3 := yW BK101.out 3
      go_wp2_with (first | ((with_reducible refine zS (f := 18) rfl ?_); refine goesL_ (some 31) rfl rfl Tryd.func18 (by kernel_rfl) rfl #[.int .i64 a0_1, .int .i64 0, .int .i64 2] rfl (by (try simp only [zI, zJ, zK]); first | done | rfl | (simp only [zL, zM]; rfl)) ?_; (with_reducible refine (spec_l1In.calls a0_1 0 2 false _ A16.out).mono ?_); rintro e w' ⟨rfl, ⟨nd, rfl⟩⟩; refine ⟨_, rfl, ?_⟩))
      go_ret
      exact ⟨by first | rfl | (simp [errW_none, errW_some] <;> rfl) | (simp [*, errW_none, errW_some] <;> rfl), by repeat (first | (with_reducible first | exact HB.out | apply yO | apply yN | apply yP | refine yQ ?_ GE101.out) | exact HB.out)⟩
    ·rw [if_neg c15] at H
     have c15b0 : (a0_0 == 3) = false := beq_eq_false_iff_ne.mpr c15
     have c15b1 : (a0_0 != 3) = true := bne_iff_ne.mpr c15
     by_cases c24 : a0_0 = 4
     ·rw [if_pos c24] at H
      have c24b0 : (a0_0 == 4) = true := beq_iff_eq.mpr c24
      have c24b1 : (a0_0 != 4) = false := bne_eq_false_iff_eq.mpr c24
      clear c24
      replace H := Option.bind_eq_some_iff.mp H
      obtain ⟨t107, A250, H⟩ := H
      replace H : (if t107 = true then ((spec_l1In.f a0_2 0 255).bind fun t108 => (if t108 = true then (some (a0_3 == 0)) else (some false))) else (some false)) = some r := H
      have A25 := yA A250
      clear A250
      by_cases c26 : t107 = true
      ·subst c26
       have H1 : ((spec_l1In.f a0_2 0 255).bind fun t108 => (if t108 = true then (some (a0_3 == 0)) else (some false))) = some r := by rw [if_pos rfl] at H; exact H
       clear H
       have H := H1
       clear H1
       replace H := Option.bind_eq_some_iff.mp H
       obtain ⟨t108, A270, H⟩ := H
       replace H : (if t108 = true then (some (a0_3 == 0)) else (some false)) = some r := H
       have A27 := yA A270
       clear A270
       by_cases c28 : t108 = true
       ·subst c28
        have H1 : (some (a0_3 == 0)) = some r := by rw [if_pos rfl] at H; exact H
        clear H
        have H := H1
        clear H1
        obtain rfl := zU H
        have hcz29_0 : wc.cell? ⟨gb101, 0, none⟩ = some (.int .i64 a0_0) := (yV BK101.out 0).trans rfl
        have hcz29_1 : wc.cell? ⟨gb101, 1, none⟩ = some (.int .i64 a0_1) := (yV BK101.out 1).trans rfl
        have hcz29_2 : wc.cell? ⟨gb101, 2, none⟩ = some (.int .i64 a0_2) := (yV BK101.out 2).trans rfl
        have hcz29_3 : wc.cell? ⟨gb101, 3, none⟩ = some (.int .i64 a0_3) := (yV BK101.out 3).trans rfl
        have hfz29_0 := yW BK101.out 0
        have hfz29_1 := yW BK101.out 1
        have hfz29_2 := yW BK101.out 2
        have hfz29_3 := yW BK101.out 3
        go_wp2_with (first | ((with_reducible refine zS (f := 18) rfl ?_); refine goesL_ (some 49) rfl rfl Tryd.func18 (by kernel_rfl) rfl #[.int .i64 a0_1, .int .i64 0, .int .i64 2] rfl (by (try simp only [zI, zJ, zK]); first | done | rfl | (simp only [zL, zM]; rfl)) ?_; (with_reducible refine (spec_l1In.calls a0_1 0 2 true _ A25.out).mono ?_); rintro e w' ⟨rfl, ⟨nd, rfl⟩⟩; refine ⟨_, rfl, ?_⟩) | (go_at_call 18; (with_reducible refine (spec_l1In.calls a0_2 0 255 true _ A27.out).mono ?_); rintro e w' ⟨rfl, ⟨nd, rfl⟩⟩))
        go_ret
        exact ⟨by first | rfl | (simp [errW_none, errW_some] <;> rfl) | (simp [*, errW_none, errW_some] <;> rfl), by repeat (first | (with_reducible first | exact HB.out | apply yO | apply yN | apply yP | refine yQ ?_ GE101.out) | exact HB.out)⟩
       ·replace c28 := Bool.eq_false_iff.mpr c28
        subst c28
        have H1 : (some false) = some r := by rw [if_neg (show ¬ (false = true) by decide)] at H; exact H
        clear H
        have H := H1
        clear H1
        obtain rfl := zU H
        have hcz30_0 : wc.cell? ⟨gb101, 0, none⟩ = some (.int .i64 a0_0) := (yV BK101.out 0).trans rfl
        have hcz30_1 : wc.cell? ⟨gb101, 1, none⟩ = some (.int .i64 a0_1) := (yV BK101.out 1).trans rfl
        have hcz30_2 : wc.cell? ⟨gb101, 2, none⟩ = some (.int .i64 a0_2) := (yV BK101.out 2).trans rfl
        have hcz30_3 : wc.cell? ⟨gb101, 3, none⟩ = some (.int .i64 a0_3) := (yV BK101.out 3).trans rfl
        have hfz30_0 := yW BK101.out 0
        have hfz30_1 := yW BK101.out 1
        have hfz30_2 := yW BK101.out 2
        have hfz30_3 := yW BK101.out 3
        go_wp2_with (first | ((with_reducible refine zS (f := 18) rfl ?_); refine goesL_ (some 49) rfl rfl Tryd.func18 (by kernel_rfl) rfl #[.int .i64 a0_1, .int .i64 0, .int .i64 2] rfl (by (try simp only [zI, zJ, zK]); first | done | rfl | (simp only [zL, zM]; rfl)) ?_; (with_reducible refine (spec_l1In.calls a0_1 0 2 true _ A25.out).mono ?_); rintro e w' ⟨rfl, ⟨nd, rfl⟩⟩; refine ⟨_, rfl, ?_⟩) | (go_at_call 18; (with_reducible refine (spec_l1In.calls a0_2 0 255 false _ A27.out).mono ?_); rintro e w' ⟨rfl, ⟨nd, rfl⟩⟩))
        go_ret
        exact ⟨by first | rfl | (simp [errW_none, errW_some] <;> rfl) | (simp [*, errW_none, errW_some] <;> rfl), by repeat (first | (with_reducible first | exact HB.out | apply yO | apply yN | apply yP | refine yQ ?_ GE101.out) | exact HB.out)⟩
      ·replace c26 := Bool.eq_false_iff.mpr c26
       subst c26
       have H1 : (some false) = some r := by rw [if_neg (show ¬ (false = true) by decide)] at H; exact H
       clear H
       have H := H1
       clear H1
       obtain rfl := zU H
       have hcz31_0 : wc.cell? ⟨gb101, 0, none⟩ = some (.int .i64 a0_0) := (yV BK101.out 0).trans rfl
       have hcz31_1 : wc.cell? ⟨gb101, 1, none⟩ = some (.int .i64 a0_1) := (yV BK101.out 1).trans rfl
       have hcz31_2 : wc.cell? ⟨gb101, 2, none⟩ = some (.int .i64 a0_2) := (yV BK101.out 2).trans rfl
       have hcz31_3 : wc.cell? ⟨gb101, 3, none⟩ = some (.int .i64 a0_3) := (yV BK101.out 3).trans rfl
       have hfz31_0 := yW BK101.out 0
       have hfz31_1 := yW BK101.out 1
       have hfz31_2 := yW BK101.out 2
       have hfz31_3 := yW BK101.out 3
       go_wp2_with (first | ((with_reducible refine zS (f := 18) rfl ?_); refine goesL_ (some 49) rfl rfl Tryd.func18 (by kernel_rfl) rfl #[.int .i64 a0_1, .int .i64 0, .int .i64 2] rfl (by (try simp only [zI, zJ, zK]); first | done | rfl | (simp only [zL, zM]; rfl)) ?_; (with_reducible refine (spec_l1In.calls a0_1 0 2 false _ A25.out).mono ?_); rintro e w' ⟨rfl, ⟨nd, rfl⟩⟩; refine ⟨_, rfl, ?_⟩))
       go_ret
       exact ⟨by first | rfl | (simp [errW_none, errW_some] <;> rfl) | (simp [*, errW_none, errW_some] <;> rfl), by repeat (first | (with_reducible first | exact HB.out | apply yO | apply yN | apply yP | refine yQ ?_ GE101.out) | exact HB.out)⟩
     ·rw [if_neg c24] at H
      have c24b0 : (a0_0 == 4) = false := beq_eq_false_iff_ne.mpr c24
      have c24b1 : (a0_0 != 4) = true := bne_iff_ne.mpr c24
      by_cases c32 : a0_0 = 5
      ·rw [if_pos c32] at H
       have c32b0 : (a0_0 == 5) = true := beq_iff_eq.mpr c32
       have c32b1 : (a0_0 != 5) = false := bne_eq_false_iff_eq.mpr c32
       clear c32
       replace H := Option.bind_eq_some_iff.mp H
       obtain ⟨t109, A330, H⟩ := H
       replace H : (if t109 = true then ((spec_l1In.f a0_2 0 3).bind fun t110 => (if t110 = true then (some (a0_3 == 0)) else (some false))) else (some false)) = some r := H
       have A33 := yA A330
       clear A330
       by_cases c34 : t109 = true
       ·subst c34
        have H1 : ((spec_l1In.f a0_2 0 3).bind fun t110 => (if t110 = true then (some (a0_3 == 0)) else (some false))) = some r := by rw [if_pos rfl] at H; exact H
        clear H
        have H := H1
        clear H1
        replace H := Option.bind_eq_some_iff.mp H
        obtain ⟨t110, A350, H⟩ := H
        replace H : (if t110 = true then (some (a0_3 == 0)) else (some false)) = some r := H
        have A35 := yA A350
        clear A350
        by_cases c36 : t110 = true
        ·subst c36
         have H1 : (some (a0_3 == 0)) = some r := by rw [if_pos rfl] at H; exact H
         clear H
         have H := H1
         clear H1
         obtain rfl := zU H
         have hcz37_0 : wc.cell? ⟨gb101, 0, none⟩ = some (.int .i64 a0_0) := (yV BK101.out 0).trans rfl
         have hcz37_1 : wc.cell? ⟨gb101, 1, none⟩ = some (.int .i64 a0_1) := (yV BK101.out 1).trans rfl
         have hcz37_2 : wc.cell? ⟨gb101, 2, none⟩ = some (.int .i64 a0_2) := (yV BK101.out 2).trans rfl
         have hcz37_3 : wc.cell? ⟨gb101, 3, none⟩ = some (.int .i64 a0_3) := (yV BK101.out 3).trans rfl
         have hfz37_0 := yW BK101.out 0
         have hfz37_1 := yW BK101.out 1
         have hfz37_2 := yW BK101.out 2
         have hfz37_3 := yW BK101.out 3
         go_wp2_with (first | ((with_reducible refine zS (f := 18) rfl ?_); refine goesL_ (some 65) rfl rfl Tryd.func18 (by kernel_rfl) rfl #[.int .i64 a0_1, .int .i64 0, .int .i64 2] rfl (by (try simp only [zI, zJ, zK]); first | done | rfl | (simp only [zL, zM]; rfl)) ?_; (with_reducible refine (spec_l1In.calls a0_1 0 2 true _ A33.out).mono ?_); rintro e w' ⟨rfl, ⟨nd, rfl⟩⟩; refine ⟨_, rfl, ?_⟩) | (go_at_call 18; (with_reducible refine (spec_l1In.calls a0_2 0 3 true _ A35.out).mono ?_); rintro e w' ⟨rfl, ⟨nd, rfl⟩⟩))
         go_ret
         exact ⟨by first | rfl | (simp [errW_none, errW_some] <;> rfl) | (simp [*, errW_none, errW_some] <;> rfl), by repeat (first | (with_reducible first | exact HB.out | apply yO | apply yN | apply yP | refine yQ ?_ GE101.out) | exact HB.out)⟩
        ·replace c36 := Bool.eq_false_iff.mpr c36
         subst c36
         have H1 : (some false) = some r := by rw [if_neg (show ¬ (false = true) by decide)] at H; exact H
         clear H
         have H := H1
         clear H1
         obtain rfl := zU H
         have hcz38_0 : wc.cell? ⟨gb101, 0, none⟩ = some (.int .i64 a0_0) := (yV BK101.out 0).trans rfl
         have hcz38_1 : wc.cell? ⟨gb101, 1, none⟩ = some (.int .i64 a0_1) := (yV BK101.out 1).trans rfl
         have hcz38_2 : wc.cell? ⟨gb101, 2, none⟩ = some (.int .i64 a0_2) := (yV BK101.out 2).trans rfl
         have hcz38_3 : wc.cell? ⟨gb101, 3, none⟩ = some (.int .i64 a0_3) := (yV BK101.out 3).trans rfl
         have hfz38_0 := yW BK101.out 0
         have hfz38_1 := yW BK101.out 1
         have hfz38_2 := yW BK101.out 2
         have hfz38_3 := yW BK101.out 3
         go_wp2_with (first | ((with_reducible refine zS (f := 18) rfl ?_); refine goesL_ (some 65) rfl rfl Tryd.func18 (by kernel_rfl) rfl #[.int .i64 a0_1, .int .i64 0, .int .i64 2] rfl (by (try simp only [zI, zJ, zK]); first | done | rfl | (simp only [zL, zM]; rfl)) ?_; (with_reducible refine (spec_l1In.calls a0_1 0 2 true _ A33.out).mono ?_); rintro e w' ⟨rfl, ⟨nd, rfl⟩⟩; refine ⟨_, rfl, ?_⟩) | (go_at_call 18; (with_reducible refine (spec_l1In.calls a0_2 0 3 false _ A35.out).mono ?_); rintro e w' ⟨rfl, ⟨nd, rfl⟩⟩))
         go_ret
         exact ⟨by first | rfl | (simp [errW_none, errW_some] <;> rfl) | (simp [*, errW_none, errW_some] <;> rfl), by repeat (first | (with_reducible first | exact HB.out | apply yO | apply yN | apply yP | refine yQ ?_ GE101.out) | exact HB.out)⟩
       ·replace c34 := Bool.eq_false_iff.mpr c34
        subst c34
        have H1 : (some false) = some r := by rw [if_neg (show ¬ (false = true) by decide)] at H; exact H
        clear H
        have H := H1
        clear H1
        obtain rfl := zU H
        have hcz39_0 : wc.cell? ⟨gb101, 0, none⟩ = some (.int .i64 a0_0) := (yV BK101.out 0).trans rfl
        have hcz39_1 : wc.cell? ⟨gb101, 1, none⟩ = some (.int .i64 a0_1) := (yV BK101.out 1).trans rfl
        have hcz39_2 : wc.cell? ⟨gb101, 2, none⟩ = some (.int .i64 a0_2) := (yV BK101.out 2).trans rfl
        have hcz39_3 : wc.cell? ⟨gb101, 3, none⟩ = some (.int .i64 a0_3) := (yV BK101.out 3).trans rfl
        have hfz39_0 := yW BK101.out 0
        have hfz39_1 := yW BK101.out 1
        have hfz39_2 := yW BK101.out 2
        have hfz39_3 := yW BK101.out 3
        go_wp2_with (first | ((with_reducible refine zS (f := 18) rfl ?_); refine goesL_ (some 65) rfl rfl Tryd.func18 (by kernel_rfl) rfl #[.int .i64 a0_1, .int .i64 0, .int .i64 2] rfl (by (try simp only [zI, zJ, zK]); first | done | rfl | (simp only [zL, zM]; rfl)) ?_; (with_reducible refine (spec_l1In.calls a0_1 0 2 false _ A33.out).mono ?_); rintro e w' ⟨rfl, ⟨nd, rfl⟩⟩; refine ⟨_, rfl, ?_⟩))
        go_ret
        exact ⟨by first | rfl | (simp [errW_none, errW_some] <;> rfl) | (simp [*, errW_none, errW_some] <;> rfl), by repeat (first | (with_reducible first | exact HB.out | apply yO | apply yN | apply yP | refine yQ ?_ GE101.out) | exact HB.out)⟩
      ·rw [if_neg c32] at H
       have c32b0 : (a0_0 == 5) = false := beq_eq_false_iff_ne.mpr c32
       have c32b1 : (a0_0 != 5) = true := bne_iff_ne.mpr c32
       by_cases c40 : a0_0 = 6
       ·rw [if_pos c40] at H
        have c40b0 : (a0_0 == 6) = true := beq_iff_eq.mpr c40
        have c40b1 : (a0_0 != 6) = false := bne_eq_false_iff_eq.mpr c40
        clear c40
        by_cases c41 : a0_1 ≥ 0
        ·rw [if_pos c41] at H
         have c41b0 : decide (0 ≤ a0_1) = true := zH c41
         clear c41
         by_cases c42 : a0_1 < a1
         ·rw [if_pos c42] at H
          have c42b0 : decide (a0_1 < a1) = true := zH c42
          clear c42
          by_cases c43 : a0_2 = 0
          ·rw [if_pos c43] at H
           have c43b0 : (a0_2 == 0) = true := beq_iff_eq.mpr c43
           have c43b1 : (a0_2 != 0) = false := bne_eq_false_iff_eq.mpr c43
           clear c43
           obtain rfl := zU H
           have hcz44_0 : wc.cell? ⟨gb101, 0, none⟩ = some (.int .i64 a0_0) := (yV BK101.out 0).trans rfl
           have hcz44_1 : wc.cell? ⟨gb101, 1, none⟩ = some (.int .i64 a0_1) := (yV BK101.out 1).trans rfl
           have hcz44_2 : wc.cell? ⟨gb101, 2, none⟩ = some (.int .i64 a0_2) := (yV BK101.out 2).trans rfl
           have hcz44_3 : wc.cell? ⟨gb101, 3, none⟩ = some (.int .i64 a0_3) := (yV BK101.out 3).trans rfl
           have hfz44_0 := yW BK101.out 0
           have hfz44_1 := yW BK101.out 1
           have hfz44_2 := yW BK101.out 2
           have hfz44_3 := yW BK101.out 3
           go_wp2
           go_ret
           exact ⟨by first | rfl | (simp [errW_none, errW_some] <;> rfl) | (simp [*, errW_none, errW_some] <;> rfl), by repeat (first | (with_reducible first | exact HB.out | apply yO | apply yN | apply yP | refine yQ ?_ GE101.out) | exact HB.out)⟩
          ·rw [if_neg c43] at H
           have c43b0 : (a0_2 == 0) = false := beq_eq_false_iff_ne.mpr c43
           have c43b1 : (a0_2 != 0) = true := bne_iff_ne.mpr c43
           obtain rfl := zU H
           have hcz45_0 : wc.cell? ⟨gb101, 0, none⟩ = some (.int .i64 a0_0) := (yV BK101.out 0).trans rfl
           have hcz45_1 : wc.cell? ⟨gb101, 1, none⟩ = some (.int .i64 a0_1) := (yV BK101.out 1).trans rfl
           have hcz45_2 : wc.cell? ⟨gb101, 2, none⟩ = some (.int .i64 a0_2) := (yV BK101.out 2).trans rfl
           have hcz45_3 : wc.cell? ⟨gb101, 3, none⟩ = some (.int .i64 a0_3) := (yV BK101.out 3).trans rfl
           have hfz45_0 := yW BK101.out 0
           have hfz45_1 := yW BK101.out 1
           have hfz45_2 := yW BK101.out 2
           have hfz45_3 := yW BK101.out 3
           go_wp2
           go_ret
           exact ⟨by first | rfl | (simp [errW_none, errW_some] <;> rfl) | (simp [*, errW_none, errW_some] <;> rfl), by repeat (first | (with_reducible first | exact HB.out | apply yO | apply yN | apply yP | refine yQ ?_ GE101.out) | exact HB.out)⟩
         ·rw [if_neg c42] at H
          have c42b0 : decide (a0_1 < a1) = false := decide_eq_false c42
          clear c42
          obtain rfl := zU H
          have hcz46_0 : wc.cell? ⟨gb101, 0, none⟩ = some (.int .i64 a0_0) := (yV BK101.out 0).trans rfl
          have hcz46_1 : wc.cell? ⟨gb101, 1, none⟩ = some (.int .i64 a0_1) := (yV BK101.out 1).trans rfl
          have hcz46_2 : wc.cell? ⟨gb101, 2, none⟩ = some (.int .i64 a0_2) := (yV BK101.out 2).trans rfl
          have hcz46_3 : wc.cell? ⟨gb101, 3, none⟩ = some (.int .i64 a0_3) := (yV BK101.out 3).trans rfl
          have hfz46_0 := yW BK101.out 0
          have hfz46_1 := yW BK101.out 1
          have hfz46_2 := yW BK101.out 2
          have hfz46_3 := yW BK101.out 3
          go_wp2
          go_ret
          exact ⟨by first | rfl | (simp [errW_none, errW_some] <;> rfl) | (simp [*, errW_none, errW_some] <;> rfl), by repeat (first | (with_reducible first | exact HB.out | apply yO | apply yN | apply yP | refine yQ ?_ GE101.out) | exact HB.out)⟩
        ·rw [if_neg c41] at H
         have c41b0 : decide (0 ≤ a0_1) = false := decide_eq_false c41
         clear c41
         obtain rfl := zU H
         have hcz47_0 : wc.cell? ⟨gb101, 0, none⟩ = some (.int .i64 a0_0) := (yV BK101.out 0).trans rfl
         have hcz47_1 : wc.cell? ⟨gb101, 1, none⟩ = some (.int .i64 a0_1) := (yV BK101.out 1).trans rfl
         have hcz47_2 : wc.cell? ⟨gb101, 2, none⟩ = some (.int .i64 a0_2) := (yV BK101.out 2).trans rfl
         have hcz47_3 : wc.cell? ⟨gb101, 3, none⟩ = some (.int .i64 a0_3) := (yV BK101.out 3).trans rfl
         have hfz47_0 := yW BK101.out 0
         have hfz47_1 := yW BK101.out 1
         have hfz47_2 := yW BK101.out 2
         have hfz47_3 := yW BK101.out 3
         go_wp2
         go_ret
         exact ⟨by first | rfl | (simp [errW_none, errW_some] <;> rfl) | (simp [*, errW_none, errW_some] <;> rfl), by repeat (first | (with_reducible first | exact HB.out | apply yO | apply yN | apply yP | refine yQ ?_ GE101.out) | exact HB.out)⟩
       ·rw [if_neg c40] at H
        have c40b0 : (a0_0 == 6) = false := beq_eq_false_iff_ne.mpr c40
        have c40b1 : (a0_0 != 6) = true := bne_iff_ne.mpr c40
        have HC48 := yA H
        clear H
        go_upto_if 97 with (fail)
        go_cut [97] (fun v97 wc => ∃ (kq : Nat) (x97_47 : Bool), v97 = .bool x97_47 ∧ Aside0 (spec_l16Node.j1 kq a1 2 a0_0 x97_47 a0_0 a0_1 a0_2 a0_3 = some r) ∧ Aside0 (kq ≤ kj2) ∧ Aside0 (wc.heap[gb101]? = some (.cells #[.int .i64 a0_0, .int .i64 a0_1, .int .i64 a0_2, .int .i64 a0_3] 33 (0, 0))) ∧ Aside0 (Below w.heap.size w wc))
        case first =>
         have H := HC48.out
         clear HC48
         by_cases c49 : a0_0 = 7
         ·rw [if_pos c49] at H
          have c49b0 : (a0_0 == 7) = true := beq_iff_eq.mpr c49
          have c49b1 : (a0_0 != 7) = false := bne_eq_false_iff_eq.mpr c49
          clear c49
          (first | rw [c49b0] | (simp only [i64_w, i32_w]; rw [c49b0]) | skip)
          have H' := yA H
          clear H
          go_wp2
          go_meet
          case rel => exact ⟨_, ((a0_0 == 7)), (by first | rfl | (simp; done) | (simp [*]; done)), H', ⟨by have := HJ2.out; first | omega | exact zT _⟩, ⟨by (with_reducible repeat (first | refine yS ?_ _ | refine yT ?_ | refine yR ?_ _)); exact BK101.out⟩, ⟨by repeat (first | (with_reducible first | exact HB.out | apply yO | apply yN | apply yP | refine yQ ?_ GE101.out) | exact HB.out)⟩⟩
         ·rw [if_neg c49] at H
          have c49b0 : (a0_0 == 7) = false := beq_eq_false_iff_ne.mpr c49
          have c49b1 : (a0_0 != 7) = true := bne_iff_ne.mpr c49
          (first | rw [c49b0] | (simp only [i64_w, i32_w]; rw [c49b0]) | skip)
          have H' := yA H
          clear H
          go_wp2
          go_meet
          case rel => exact ⟨_, ((a0_0 == 8)), (by first | rfl | (simp; done) | (simp [*]; done)), H', ⟨by have := HJ2.out; first | omega | exact zT _⟩, ⟨by (with_reducible repeat (first | refine yS ?_ _ | refine yT ?_ | refine yR ?_ _)); exact BK101.out⟩, ⟨by repeat (first | (with_reducible first | exact HB.out | apply yO | apply yN | apply yP | refine yQ ?_ GE101.out) | exact HB.out)⟩⟩
        case rest =>
         clear HC48
         try clear c1
         try clear c2
         try clear p2
         try clear c3
         try clear c4
         try clear c6
         try clear c6b0
         try clear c6b1
         try clear c7
         try clear c9
         try clear c11
         try clear c15
         try clear c15b0
         try clear c15b1
         try clear c17
         try clear c18
         try clear c19
         try clear c24
         try clear c24b0
         try clear c24b1
         try clear c26
         try clear c28
         try clear c32
         try clear c32b0
         try clear c32b1
         try clear c34
         try clear c36
         try clear c40
         try clear c40b0
         try clear c40b1
         try clear c41
         try clear c41b0
         try clear c42
         try clear c42b0
         try clear c43
         try clear c43b0
         try clear c43b1
         try clear c49
         try clear c49b0
         try clear c49b1
         try clear hcz12_0
         try clear hcz12_1
         try clear hcz12_2
         try clear hcz12_3
         try clear hcz13_0
         try clear hcz13_1
         try clear hcz13_2
         try clear hcz13_3
         try clear hcz14_0
         try clear hcz14_1
         try clear hcz14_2
         try clear hcz14_3
         try clear hcz21_0
         try clear hcz21_1
         try clear hcz21_2
         try clear hcz21_3
         try clear hcz22_0
         try clear hcz22_1
         try clear hcz22_2
         try clear hcz22_3
         try clear hcz23_0
         try clear hcz23_1
         try clear hcz23_2
         try clear hcz23_3
         try clear hcz29_0
         try clear hcz29_1
         try clear hcz29_2
         try clear hcz29_3
         try clear hcz30_0
         try clear hcz30_1
         try clear hcz30_2
         try clear hcz30_3
         try clear hcz31_0
         try clear hcz31_1
         try clear hcz31_2
         try clear hcz31_3
         try clear hcz37_0
         try clear hcz37_1
         try clear hcz37_2
         try clear hcz37_3
         try clear hcz38_0
         try clear hcz38_1
         try clear hcz38_2
         try clear hcz38_3
         try clear hcz39_0
         try clear hcz39_1
         try clear hcz39_2
         try clear hcz39_3
         try clear hcz44_0
         try clear hcz44_1
         try clear hcz44_2
         try clear hcz44_3
         try clear hcz45_0
         try clear hcz45_1
         try clear hcz45_2
         try clear hcz45_3
         try clear hcz46_0
         try clear hcz46_1
         try clear hcz46_2
         try clear hcz46_3
         try clear hcz47_0
         try clear hcz47_1
         try clear hcz47_2
         try clear hcz47_3
         try clear hcz5_0
         try clear hcz5_1
         try clear hcz5_2
         try clear hcz5_3
         try clear hfz12_0
         try clear hfz12_1
         try clear hfz12_2
         try clear hfz12_3
         try clear hfz13_0
         try clear hfz13_1
         try clear hfz13_2
         try clear hfz13_3
         try clear hfz14_0
         try clear hfz14_1
         try clear hfz14_2
         try clear hfz14_3
         try clear hfz21_0
         try clear hfz21_1
         try clear hfz21_2
         try clear hfz21_3
         try clear hfz22_0
         try clear hfz22_1
         try clear hfz22_2
         try clear hfz22_3
         try clear hfz23_0
         try clear hfz23_1
         try clear hfz23_2
         try clear hfz23_3
         try clear hfz29_0
         try clear hfz29_1
         try clear hfz29_2
         try clear hfz29_3
         try clear hfz30_0
         try clear hfz30_1
         try clear hfz30_2
         try clear hfz30_3
         try clear hfz31_0
         try clear hfz31_1
         try clear hfz31_2
         try clear hfz31_3
         try clear hfz37_0
         try clear hfz37_1
         try clear hfz37_2
         try clear hfz37_3
         try clear hfz38_0
         try clear hfz38_1
         try clear hfz38_2
         try clear hfz38_3
         try clear hfz39_0
         try clear hfz39_1
         try clear hfz39_2
         try clear hfz39_3
         try clear hfz44_0
         try clear hfz44_1
         try clear hfz44_2
         try clear hfz44_3
         try clear hfz45_0
         try clear hfz45_1
         try clear hfz45_2
         try clear hfz45_3
         try clear hfz46_0
         try clear hfz46_1
         try clear hfz46_2
         try clear hfz46_3
         try clear hfz47_0
         try clear hfz47_1
         try clear hfz47_2
         try clear hfz47_3
         try clear hfz5_0
         try clear hfz5_1
         try clear hfz5_2
         try clear hfz5_3
         try clear p2
         obtain ⟨kq, x97_47, rfl, HA, HJ47, BK101, HB⟩ := hcut
         cases kq with
         | zero => exact absurd HA.out (by simp [spec_l16Node.j1])
         | succ kj47 =>
          have H := HA.out
          clear HA
          simp only [spec_l16Node.j1] at H
          by_cases c50 : x97_47 = true
          ·subst c50
           have H1 : (if a0_1 ≥ 0 then (if a0_1 < a1 then (if a0_2 ≥ 0 then (if a0_2 < a1 then (some (a0_3 == 0)) else (some false)) else (some false)) else (some false)) else (some false)) = some r := by rw [if_pos rfl] at H; exact H
           clear H
           have H := H1
           clear H1
           by_cases c51 : a0_1 ≥ 0
           ·rw [if_pos c51] at H
            have c51b0 : decide (0 ≤ a0_1) = true := zH c51
            clear c51
            by_cases c52 : a0_1 < a1
            ·rw [if_pos c52] at H
             have c52b0 : decide (a0_1 < a1) = true := zH c52
             clear c52
             by_cases c53 : a0_2 ≥ 0
             ·rw [if_pos c53] at H
              have c53b0 : decide (0 ≤ a0_2) = true := zH c53
              clear c53
              by_cases c54 : a0_2 < a1
              ·rw [if_pos c54] at H
               have c54b0 : decide (a0_2 < a1) = true := zH c54
               clear c54
               obtain rfl := zU H
               have hcz55_0 : wc.cell? ⟨gb101, 0, none⟩ = some (.int .i64 a0_0) := (yV BK101.out 0).trans rfl
               have hcz55_1 : wc.cell? ⟨gb101, 1, none⟩ = some (.int .i64 a0_1) := (yV BK101.out 1).trans rfl
               have hcz55_2 : wc.cell? ⟨gb101, 2, none⟩ = some (.int .i64 a0_2) := (yV BK101.out 2).trans rfl
               have hcz55_3 : wc.cell? ⟨gb101, 3, none⟩ = some (.int .i64 a0_3) := (yV BK101.out 3).trans rfl
               have hfz55_0 := yW BK101.out 0
               have hfz55_1 := yW BK101.out 1
               have hfz55_2 := yW BK101.out 2
               have hfz55_3 := yW BK101.out 3
               go_wp2
               go_ret
               exact ⟨by first | rfl | (simp [errW_none, errW_some] <;> rfl) | (simp [*, errW_none, errW_some] <;> rfl), by repeat (first | (with_reducible first | exact HB.out | apply yO | apply yN | apply yP | refine yQ ?_ GE101.out) | exact HB.out)⟩
              ·rw [if_neg c54] at H
               have c54b0 : decide (a0_2 < a1) = false := decide_eq_false c54
               clear c54
               obtain rfl := zU H
               have hcz56_0 : wc.cell? ⟨gb101, 0, none⟩ = some (.int .i64 a0_0) := (yV BK101.out 0).trans rfl
               have hcz56_1 : wc.cell? ⟨gb101, 1, none⟩ = some (.int .i64 a0_1) := (yV BK101.out 1).trans rfl
               have hcz56_2 : wc.cell? ⟨gb101, 2, none⟩ = some (.int .i64 a0_2) := (yV BK101.out 2).trans rfl
               have hcz56_3 : wc.cell? ⟨gb101, 3, none⟩ = some (.int .i64 a0_3) := (yV BK101.out 3).trans rfl
               have hfz56_0 := yW BK101.out 0
               have hfz56_1 := yW BK101.out 1
               have hfz56_2 := yW BK101.out 2
               have hfz56_3 := yW BK101.out 3
               go_wp2
               go_ret
               exact ⟨by first | rfl | (simp [errW_none, errW_some] <;> rfl) | (simp [*, errW_none, errW_some] <;> rfl), by repeat (first | (with_reducible first | exact HB.out | apply yO | apply yN | apply yP | refine yQ ?_ GE101.out) | exact HB.out)⟩
             ·rw [if_neg c53] at H
              have c53b0 : decide (0 ≤ a0_2) = false := decide_eq_false c53
              clear c53
              obtain rfl := zU H
              have hcz57_0 : wc.cell? ⟨gb101, 0, none⟩ = some (.int .i64 a0_0) := (yV BK101.out 0).trans rfl
              have hcz57_1 : wc.cell? ⟨gb101, 1, none⟩ = some (.int .i64 a0_1) := (yV BK101.out 1).trans rfl
              have hcz57_2 : wc.cell? ⟨gb101, 2, none⟩ = some (.int .i64 a0_2) := (yV BK101.out 2).trans rfl
              have hcz57_3 : wc.cell? ⟨gb101, 3, none⟩ = some (.int .i64 a0_3) := (yV BK101.out 3).trans rfl
              have hfz57_0 := yW BK101.out 0
              have hfz57_1 := yW BK101.out 1
              have hfz57_2 := yW BK101.out 2
              have hfz57_3 := yW BK101.out 3
              go_wp2
              go_ret
              exact ⟨by first | rfl | (simp [errW_none, errW_some] <;> rfl) | (simp [*, errW_none, errW_some] <;> rfl), by repeat (first | (with_reducible first | exact HB.out | apply yO | apply yN | apply yP | refine yQ ?_ GE101.out) | exact HB.out)⟩
            ·rw [if_neg c52] at H
             have c52b0 : decide (a0_1 < a1) = false := decide_eq_false c52
             clear c52
             obtain rfl := zU H
             have hcz58_0 : wc.cell? ⟨gb101, 0, none⟩ = some (.int .i64 a0_0) := (yV BK101.out 0).trans rfl
             have hcz58_1 : wc.cell? ⟨gb101, 1, none⟩ = some (.int .i64 a0_1) := (yV BK101.out 1).trans rfl
             have hcz58_2 : wc.cell? ⟨gb101, 2, none⟩ = some (.int .i64 a0_2) := (yV BK101.out 2).trans rfl
             have hcz58_3 : wc.cell? ⟨gb101, 3, none⟩ = some (.int .i64 a0_3) := (yV BK101.out 3).trans rfl
             have hfz58_0 := yW BK101.out 0
             have hfz58_1 := yW BK101.out 1
             have hfz58_2 := yW BK101.out 2
             have hfz58_3 := yW BK101.out 3
             go_wp2
             go_ret
             exact ⟨by first | rfl | (simp [errW_none, errW_some] <;> rfl) | (simp [*, errW_none, errW_some] <;> rfl), by repeat (first | (with_reducible first | exact HB.out | apply yO | apply yN | apply yP | refine yQ ?_ GE101.out) | exact HB.out)⟩
           ·rw [if_neg c51] at H
            have c51b0 : decide (0 ≤ a0_1) = false := decide_eq_false c51
            clear c51
            obtain rfl := zU H
            have hcz59_0 : wc.cell? ⟨gb101, 0, none⟩ = some (.int .i64 a0_0) := (yV BK101.out 0).trans rfl
            have hcz59_1 : wc.cell? ⟨gb101, 1, none⟩ = some (.int .i64 a0_1) := (yV BK101.out 1).trans rfl
            have hcz59_2 : wc.cell? ⟨gb101, 2, none⟩ = some (.int .i64 a0_2) := (yV BK101.out 2).trans rfl
            have hcz59_3 : wc.cell? ⟨gb101, 3, none⟩ = some (.int .i64 a0_3) := (yV BK101.out 3).trans rfl
            have hfz59_0 := yW BK101.out 0
            have hfz59_1 := yW BK101.out 1
            have hfz59_2 := yW BK101.out 2
            have hfz59_3 := yW BK101.out 3
            go_wp2
            go_ret
            exact ⟨by first | rfl | (simp [errW_none, errW_some] <;> rfl) | (simp [*, errW_none, errW_some] <;> rfl), by repeat (first | (with_reducible first | exact HB.out | apply yO | apply yN | apply yP | refine yQ ?_ GE101.out) | exact HB.out)⟩
          ·replace c50 := Bool.eq_false_iff.mpr c50
           subst c50
           have H1 : (if a0_0 = 9 then ((spec_l1In.f a0_1 0 2).bind fun t111 => (if t111 = true then (if a0_2 ≥ 0 then (if a0_2 < a1 then (some (a0_3 == 0)) else (some false)) else (some false)) else (some false))) else (if a0_0 = 10 then ((spec_l1In.f a0_1 0 2).bind fun t112 => (if t112 = true then (if a0_2 ≥ 0 then (if a0_2 < a1 then (some (a0_3 == 0)) else (some false)) else (some false)) else (some false))) else (some false))) = some r := by rw [if_neg (show ¬ (false = true) by decide)] at H; exact H
           clear H
           have H := H1
           clear H1
           by_cases c60 : a0_0 = 9
           ·rw [if_pos c60] at H
            have c60b0 : (a0_0 == 9) = true := beq_iff_eq.mpr c60
            have c60b1 : (a0_0 != 9) = false := bne_eq_false_iff_eq.mpr c60
            clear c60
            replace H := Option.bind_eq_some_iff.mp H
            obtain ⟨t111, A610, H⟩ := H
            replace H : (if t111 = true then (if a0_2 ≥ 0 then (if a0_2 < a1 then (some (a0_3 == 0)) else (some false)) else (some false)) else (some false)) = some r := H
            have A61 := yA A610
            clear A610
            by_cases c62 : t111 = true
            ·subst c62
             have H1 : (if a0_2 ≥ 0 then (if a0_2 < a1 then (some (a0_3 == 0)) else (some false)) else (some false)) = some r := by rw [if_pos rfl] at H; exact H
             clear H
             have H := H1
             clear H1
             by_cases c63 : a0_2 ≥ 0
             ·rw [if_pos c63] at H
              have c63b0 : decide (0 ≤ a0_2) = true := zH c63
              clear c63
              by_cases c64 : a0_2 < a1
              ·rw [if_pos c64] at H
               have c64b0 : decide (a0_2 < a1) = true := zH c64
               clear c64
               obtain rfl := zU H
               have hcz65_0 : wc.cell? ⟨gb101, 0, none⟩ = some (.int .i64 a0_0) := (yV BK101.out 0).trans rfl
               have hcz65_1 : wc.cell? ⟨gb101, 1, none⟩ = some (.int .i64 a0_1) := (yV BK101.out 1).trans rfl
               have hcz65_2 : wc.cell? ⟨gb101, 2, none⟩ = some (.int .i64 a0_2) := (yV BK101.out 2).trans rfl
               have hcz65_3 : wc.cell? ⟨gb101, 3, none⟩ = some (.int .i64 a0_3) := (yV BK101.out 3).trans rfl
               have hfz65_0 := yW BK101.out 0
               have hfz65_1 := yW BK101.out 1
               have hfz65_2 := yW BK101.out 2
               have hfz65_3 := yW BK101.out 3
               go_wp2_with (first | ((with_reducible refine zS (f := 18) rfl ?_); refine goesL_ (some 131) rfl rfl Tryd.func18 (by kernel_rfl) rfl #[.int .i64 a0_1, .int .i64 0, .int .i64 2] rfl (by (try simp only [zI, zJ, zK]); first | done | rfl | (simp only [zL, zM]; rfl)) ?_; (with_reducible refine (spec_l1In.calls a0_1 0 2 true _ A61.out).mono ?_); rintro e w' ⟨rfl, ⟨nd, rfl⟩⟩; refine ⟨_, rfl, ?_⟩))
               go_ret
               exact ⟨by first | rfl | (simp [errW_none, errW_some] <;> rfl) | (simp [*, errW_none, errW_some] <;> rfl), by repeat (first | (with_reducible first | exact HB.out | apply yO | apply yN | apply yP | refine yQ ?_ GE101.out) | exact HB.out)⟩
              ·rw [if_neg c64] at H
               have c64b0 : decide (a0_2 < a1) = false := decide_eq_false c64
               clear c64
               obtain rfl := zU H
               have hcz66_0 : wc.cell? ⟨gb101, 0, none⟩ = some (.int .i64 a0_0) := (yV BK101.out 0).trans rfl
               have hcz66_1 : wc.cell? ⟨gb101, 1, none⟩ = some (.int .i64 a0_1) := (yV BK101.out 1).trans rfl
               have hcz66_2 : wc.cell? ⟨gb101, 2, none⟩ = some (.int .i64 a0_2) := (yV BK101.out 2).trans rfl
               have hcz66_3 : wc.cell? ⟨gb101, 3, none⟩ = some (.int .i64 a0_3) := (yV BK101.out 3).trans rfl
               have hfz66_0 := yW BK101.out 0
               have hfz66_1 := yW BK101.out 1
               have hfz66_2 := yW BK101.out 2
               have hfz66_3 := yW BK101.out 3
               go_wp2_with (first | ((with_reducible refine zS (f := 18) rfl ?_); refine goesL_ (some 131) rfl rfl Tryd.func18 (by kernel_rfl) rfl #[.int .i64 a0_1, .int .i64 0, .int .i64 2] rfl (by (try simp only [zI, zJ, zK]); first | done | rfl | (simp only [zL, zM]; rfl)) ?_; (with_reducible refine (spec_l1In.calls a0_1 0 2 true _ A61.out).mono ?_); rintro e w' ⟨rfl, ⟨nd, rfl⟩⟩; refine ⟨_, rfl, ?_⟩))
               go_ret
               exact ⟨by first | rfl | (simp [errW_none, errW_some] <;> rfl) | (simp [*, errW_none, errW_some] <;> rfl), by repeat (first | (with_reducible first | exact HB.out | apply yO | apply yN | apply yP | refine yQ ?_ GE101.out) | exact HB.out)⟩
             ·rw [if_neg c63] at H
              have c63b0 : decide (0 ≤ a0_2) = false := decide_eq_false c63
              clear c63
              obtain rfl := zU H
              have hcz67_0 : wc.cell? ⟨gb101, 0, none⟩ = some (.int .i64 a0_0) := (yV BK101.out 0).trans rfl
              have hcz67_1 : wc.cell? ⟨gb101, 1, none⟩ = some (.int .i64 a0_1) := (yV BK101.out 1).trans rfl
              have hcz67_2 : wc.cell? ⟨gb101, 2, none⟩ = some (.int .i64 a0_2) := (yV BK101.out 2).trans rfl
              have hcz67_3 : wc.cell? ⟨gb101, 3, none⟩ = some (.int .i64 a0_3) := (yV BK101.out 3).trans rfl
              have hfz67_0 := yW BK101.out 0
              have hfz67_1 := yW BK101.out 1
              have hfz67_2 := yW BK101.out 2
              have hfz67_3 := yW BK101.out 3
              go_wp2_with (first | ((with_reducible refine zS (f := 18) rfl ?_); refine goesL_ (some 131) rfl rfl Tryd.func18 (by kernel_rfl) rfl #[.int .i64 a0_1, .int .i64 0, .int .i64 2] rfl (by (try simp only [zI, zJ, zK]); first | done | rfl | (simp only [zL, zM]; rfl)) ?_; (with_reducible refine (spec_l1In.calls a0_1 0 2 true _ A61.out).mono ?_); rintro e w' ⟨rfl, ⟨nd, rfl⟩⟩; refine ⟨_, rfl, ?_⟩))
              go_ret
              exact ⟨by first | rfl | (simp [errW_none, errW_some] <;> rfl) | (simp [*, errW_none, errW_some] <;> rfl), by repeat (first | (with_reducible first | exact HB.out | apply yO | apply yN | apply yP | refine yQ ?_ GE101.out) | exact HB.out)⟩
            ·replace c62 := Bool.eq_false_iff.mpr c62
             subst c62
             have H1 : (some false) = some r := by rw [if_neg (show ¬ (false = true) by decide)] at H; exact H
             clear H
             have H := H1
             clear H1
             obtain rfl := zU H
             have hcz68_0 : wc.cell? ⟨gb101, 0, none⟩ = some (.int .i64 a0_0) := (yV BK101.out 0).trans rfl
             have hcz68_1 : wc.cell? ⟨gb101, 1, none⟩ = some (.int .i64 a0_1) := (yV BK101.out 1).trans rfl
             have hcz68_2 : wc.cell? ⟨gb101, 2, none⟩ = some (.int .i64 a0_2) := (yV BK101.out 2).trans rfl
             have hcz68_3 : wc.cell? ⟨gb101, 3, none⟩ = some (.int .i64 a0_3) := (yV BK101.out 3).trans rfl
             have hfz68_0 := yW BK101.out 0
             have hfz68_1 := yW BK101.out 1
             have hfz68_2 := yW BK101.out 2
             have hfz68_3 := yW BK101.out 3
             go_wp2_with (first | ((with_reducible refine zS (f := 18) rfl ?_); refine goesL_ (some 131) rfl rfl Tryd.func18 (by kernel_rfl) rfl #[.int .i64 a0_1, .int .i64 0, .int .i64 2] rfl (by (try simp only [zI, zJ, zK]); first | done | rfl | (simp only [zL, zM]; rfl)) ?_; (with_reducible refine (spec_l1In.calls a0_1 0 2 false _ A61.out).mono ?_); rintro e w' ⟨rfl, ⟨nd, rfl⟩⟩; refine ⟨_, rfl, ?_⟩))
             go_ret
             exact ⟨by first | rfl | (simp [errW_none, errW_some] <;> rfl) | (simp [*, errW_none, errW_some] <;> rfl), by repeat (first | (with_reducible first | exact HB.out | apply yO | apply yN | apply yP | refine yQ ?_ GE101.out) | exact HB.out)⟩
           ·rw [if_neg c60] at H
            have c60b0 : (a0_0 == 9) = false := beq_eq_false_iff_ne.mpr c60
            have c60b1 : (a0_0 != 9) = true := bne_iff_ne.mpr c60
            by_cases c69 : a0_0 = 10
            ·rw [if_pos c69] at H
             have c69b0 : (a0_0 == 10) = true := beq_iff_eq.mpr c69
             have c69b1 : (a0_0 != 10) = false := bne_eq_false_iff_eq.mpr c69
             clear c69
             replace H := Option.bind_eq_some_iff.mp H
             obtain ⟨t112, A700, H⟩ := H
             replace H : (if t112 = true then (if a0_2 ≥ 0 then (if a0_2 < a1 then (some (a0_3 == 0)) else (some false)) else (some false)) else (some false)) = some r := H
             have A70 := yA A700
             clear A700
             by_cases c71 : t112 = true
             ·subst c71
              have H1 : (if a0_2 ≥ 0 then (if a0_2 < a1 then (some (a0_3 == 0)) else (some false)) else (some false)) = some r := by rw [if_pos rfl] at H; exact H
              clear H
              have H := H1
              clear H1
              by_cases c72 : a0_2 ≥ 0
              ·rw [if_pos c72] at H
               have c72b0 : decide (0 ≤ a0_2) = true := zH c72
               clear c72
               by_cases c73 : a0_2 < a1
               ·rw [if_pos c73] at H
                have c73b0 : decide (a0_2 < a1) = true := zH c73
                clear c73
                obtain rfl := zU H
                have hcz74_0 : wc.cell? ⟨gb101, 0, none⟩ = some (.int .i64 a0_0) := (yV BK101.out 0).trans rfl
                have hcz74_1 : wc.cell? ⟨gb101, 1, none⟩ = some (.int .i64 a0_1) := (yV BK101.out 1).trans rfl
                have hcz74_2 : wc.cell? ⟨gb101, 2, none⟩ = some (.int .i64 a0_2) := (yV BK101.out 2).trans rfl
                have hcz74_3 : wc.cell? ⟨gb101, 3, none⟩ = some (.int .i64 a0_3) := (yV BK101.out 3).trans rfl
                have hfz74_0 := yW BK101.out 0
                have hfz74_1 := yW BK101.out 1
                have hfz74_2 := yW BK101.out 2
                have hfz74_3 := yW BK101.out 3
                go_wp2_with (first | ((with_reducible refine zS (f := 18) rfl ?_); refine goesL_ (some 131) rfl rfl Tryd.func18 (by kernel_rfl) rfl #[.int .i64 a0_1, .int .i64 0, .int .i64 2] rfl (by (try simp only [zI, zJ, zK]); first | done | rfl | (simp only [zL, zM]; rfl)) ?_; (with_reducible refine (spec_l1In.calls a0_1 0 2 true _ A70.out).mono ?_); rintro e w' ⟨rfl, ⟨nd, rfl⟩⟩; refine ⟨_, rfl, ?_⟩))
                go_ret
                exact ⟨by first | rfl | (simp [errW_none, errW_some] <;> rfl) | (simp [*, errW_none, errW_some] <;> rfl), by repeat (first | (with_reducible first | exact HB.out | apply yO | apply yN | apply yP | refine yQ ?_ GE101.out) | exact HB.out)⟩
               ·rw [if_neg c73] at H
                have c73b0 : decide (a0_2 < a1) = false := decide_eq_false c73
                clear c73
                obtain rfl := zU H
                have hcz75_0 : wc.cell? ⟨gb101, 0, none⟩ = some (.int .i64 a0_0) := (yV BK101.out 0).trans rfl
                have hcz75_1 : wc.cell? ⟨gb101, 1, none⟩ = some (.int .i64 a0_1) := (yV BK101.out 1).trans rfl
                have hcz75_2 : wc.cell? ⟨gb101, 2, none⟩ = some (.int .i64 a0_2) := (yV BK101.out 2).trans rfl
                have hcz75_3 : wc.cell? ⟨gb101, 3, none⟩ = some (.int .i64 a0_3) := (yV BK101.out 3).trans rfl
                have hfz75_0 := yW BK101.out 0
                have hfz75_1 := yW BK101.out 1
                have hfz75_2 := yW BK101.out 2
                have hfz75_3 := yW BK101.out 3
                go_wp2_with (first | ((with_reducible refine zS (f := 18) rfl ?_); refine goesL_ (some 131) rfl rfl Tryd.func18 (by kernel_rfl) rfl #[.int .i64 a0_1, .int .i64 0, .int .i64 2] rfl (by (try simp only [zI, zJ, zK]); first | done | rfl | (simp only [zL, zM]; rfl)) ?_; (with_reducible refine (spec_l1In.calls a0_1 0 2 true _ A70.out).mono ?_); rintro e w' ⟨rfl, ⟨nd, rfl⟩⟩; refine ⟨_, rfl, ?_⟩))
                go_ret
                exact ⟨by first | rfl | (simp [errW_none, errW_some] <;> rfl) | (simp [*, errW_none, errW_some] <;> rfl), by repeat (first | (with_reducible first | exact HB.out | apply yO | apply yN | apply yP | refine yQ ?_ GE101.out) | exact HB.out)⟩
              ·rw [if_neg c72] at H
               have c72b0 : decide (0 ≤ a0_2) = false := decide_eq_false c72
               clear c72
               obtain rfl := zU H
               have hcz76_0 : wc.cell? ⟨gb101, 0, none⟩ = some (.int .i64 a0_0) := (yV BK101.out 0).trans rfl
               have hcz76_1 : wc.cell? ⟨gb101, 1, none⟩ = some (.int .i64 a0_1) := (yV BK101.out 1).trans rfl
               have hcz76_2 : wc.cell? ⟨gb101, 2, none⟩ = some (.int .i64 a0_2) := (yV BK101.out 2).trans rfl
               have hcz76_3 : wc.cell? ⟨gb101, 3, none⟩ = some (.int .i64 a0_3) := (yV BK101.out 3).trans rfl
               have hfz76_0 := yW BK101.out 0
               have hfz76_1 := yW BK101.out 1
               have hfz76_2 := yW BK101.out 2
               have hfz76_3 := yW BK101.out 3
               go_wp2_with (first | ((with_reducible refine zS (f := 18) rfl ?_); refine goesL_ (some 131) rfl rfl Tryd.func18 (by kernel_rfl) rfl #[.int .i64 a0_1, .int .i64 0, .int .i64 2] rfl (by (try simp only [zI, zJ, zK]); first | done | rfl | (simp only [zL, zM]; rfl)) ?_; (with_reducible refine (spec_l1In.calls a0_1 0 2 true _ A70.out).mono ?_); rintro e w' ⟨rfl, ⟨nd, rfl⟩⟩; refine ⟨_, rfl, ?_⟩))
               go_ret
               exact ⟨by first | rfl | (simp [errW_none, errW_some] <;> rfl) | (simp [*, errW_none, errW_some] <;> rfl), by repeat (first | (with_reducible first | exact HB.out | apply yO | apply yN | apply yP | refine yQ ?_ GE101.out) | exact HB.out)⟩
             ·replace c71 := Bool.eq_false_iff.mpr c71
              subst c71
              have H1 : (some false) = some r := by rw [if_neg (show ¬ (false = true) by decide)] at H; exact H
              clear H
              have H := H1
              clear H1
              obtain rfl := zU H
              have hcz77_0 : wc.cell? ⟨gb101, 0, none⟩ = some (.int .i64 a0_0) := (yV BK101.out 0).trans rfl
              have hcz77_1 : wc.cell? ⟨gb101, 1, none⟩ = some (.int .i64 a0_1) := (yV BK101.out 1).trans rfl
              have hcz77_2 : wc.cell? ⟨gb101, 2, none⟩ = some (.int .i64 a0_2) := (yV BK101.out 2).trans rfl
              have hcz77_3 : wc.cell? ⟨gb101, 3, none⟩ = some (.int .i64 a0_3) := (yV BK101.out 3).trans rfl
              have hfz77_0 := yW BK101.out 0
              have hfz77_1 := yW BK101.out 1
              have hfz77_2 := yW BK101.out 2
              have hfz77_3 := yW BK101.out 3
              go_wp2_with (first | ((with_reducible refine zS (f := 18) rfl ?_); refine goesL_ (some 131) rfl rfl Tryd.func18 (by kernel_rfl) rfl #[.int .i64 a0_1, .int .i64 0, .int .i64 2] rfl (by (try simp only [zI, zJ, zK]); first | done | rfl | (simp only [zL, zM]; rfl)) ?_; (with_reducible refine (spec_l1In.calls a0_1 0 2 false _ A70.out).mono ?_); rintro e w' ⟨rfl, ⟨nd, rfl⟩⟩; refine ⟨_, rfl, ?_⟩))
              go_ret
              exact ⟨by first | rfl | (simp [errW_none, errW_some] <;> rfl) | (simp [*, errW_none, errW_some] <;> rfl), by repeat (first | (with_reducible first | exact HB.out | apply yO | apply yN | apply yP | refine yQ ?_ GE101.out) | exact HB.out)⟩
            ·rw [if_neg c69] at H
             have c69b0 : (a0_0 == 10) = false := beq_eq_false_iff_ne.mpr c69
             have c69b1 : (a0_0 != 10) = true := bne_iff_ne.mpr c69
             obtain rfl := zU H
             go_wp2
             go_ret
             exact ⟨by first | rfl | (simp [errW_none, errW_some] <;> rfl) | (simp [*, errW_none, errW_some] <;> rfl), by repeat (first | (with_reducible first | exact HB.out | apply yO | apply yN | apply yP | refine yQ ?_ GE101.out) | exact HB.out)⟩

end Go.Proofs.YtdckaflfgbbabaaDoor.Q
