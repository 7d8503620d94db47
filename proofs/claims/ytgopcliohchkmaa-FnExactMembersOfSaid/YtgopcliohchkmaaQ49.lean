-- written by a program of this session
-- squeezed
-- compact
-- shrunk
import Derived.Test.YtgopcliohchkmaaQ0
namespace Go.Proofs.Ytgopcliohchkmaa.Q
open Go.RowKit Go.Proofs.YtgopcliohchkmaaW.PrintWords Go.Proofs.YtgopcliohchkmaaW.PrintLast Go.Proofs.YtgopcliohchkmaaW.PrintMore
set_option linter.unusedVariables false
set_option linter.unusedSimpArgs false

/-! ### spec_PadDigits: function 69 -/
def spec_PadDigits.l0 : Nat → List Int → Int → List Int → Int → Option (List Int)
 | 0, _, _, _, _ => none
 | k + 1, x0, x1, x5, x6 => if x6 < x1 then (if x1 ≤ 16 then (if x5.length < 17592186044416 then (spec_PadDigits.l0 k x0 x1 (x5 ++ [0]) (wrap64 (x6 + 1))) else (none)) else (if x5.length + x0.length < 17592186044416 then (some (x5 ++ x0)) else (none))) else (if x5.length + x0.length < 17592186044416 then (some (x5 ++ x0)) else (none))
def spec_PadDigits.f (k : Nat) (l0 : List Int) (a1 : Int) : Option (List Int) := spec_PadDigits.l0 k l0 a1 (([] : List Int)) (l0.length : Int)
theorem spec_PadDigits.mono_l : ∀ k, (∀ y0 y1 y2 y3, LeO (spec_PadDigits.l0 k y0 y1 y2 y3) (spec_PadDigits.l0 (k + 1) y0 y1 y2 y3))
 | 0 => fun _ _ _ _ r h => by simp [spec_PadDigits.l0] at h
 | k + 1 => by
  have ih0 := spec_PadDigits.mono_l k
  intros
  unfold spec_PadDigits.l0
  repeat' (with_reducible first | exact ih0 _ _ _ _ | exact LeO.refl _ | exact LeO.none _ | refine LeO.ite ?_ ?_ | refine LeO.bind ?_ fun _ => ?_)
theorem spec_PadDigits.mono : ∀ a0 a1 k, LeO (spec_PadDigits.f k a0 a1) (spec_PadDigits.f (k + 1) a0 a1) := by
 intro a0 a1 k
 have ih0 := spec_PadDigits.mono_l k
 unfold spec_PadDigits.f
 repeat' (with_reducible first | exact ih0 _ _ _ _ | exact LeO.refl _ | exact LeO.none _ | refine LeO.ite ?_ ?_ | refine LeO.bind ?_ fun _ => ?_)
set_option maxHeartbeats 8000000 in
set_option maxRecDepth 100000 in
theorem spec_PadDigits.calls (k : Nat) (A0 : Option Addr) (c0 : Nat) (l0 : List Int) (a1 : Int) (r : List Int) (w : World) (hr0 : Kd.C (Kd.int .i64) w A0 l0.length l0) (hc0 : l0.length ≤ c0) (h : spec_PadDigits.f k l0 a1 = some r) :
  Calls Try.prog 69 #[.slice A0 l0.length c0, .int .i64 a1] w fun e w' => ∃ v0_ : Value, e = .returned (v0_) ∧ Kd.R (Kd.int .i64) 3 w' w.heap.size (fun _ => True) v0_ r ∧ Below w.heap.size w w' := by
 have HR0 := yA hr0
 have HC0 := yA hc0
 clear hr0 hc0
 have HB := yA (zV w.heap.size w)
 have H : (spec_PadDigits.l0 k l0 a1 (([] : List Int)) (l0.length : Int)) = some r := h
 clear h
 (first | ((with_reducible replace H := bS H); obtain ⟨y451, Ny451, H⟩ := H) | (obtain ⟨y451, Ny451⟩ : ∃ y_ : List Int, y_ = (([] : List Int)) := ⟨_, rfl⟩; rw [← Ny451] at H; replace Ny451 := yA Ny451))
 have H' := yA H
 clear H
 go_enter Try.func69, Try.ntmps69
 go_wp2_with (first | ((with_reducible refine gate_dst (N := 7) rfl ?_); refine Kd.R_lit (Kd.int .i64) _ 3 ?hg (N := 7) ?hd (xs := ([] : List Int)) (inner := []) (ok := fun _ => True) (okp := fun _ => True) ?hr ?hp (fun _ hk => hk) trivial (zV _ _) (zT _) (by simp) ?_; (case hd => rfl); (case hg => rfl); (case hr => first | (go_simp; done) | (go_simp; rfl)); (case hp => exact (Reps.none _ _)); intro v452 w3 ho4 hb hg_ hnew_; clear hg_ hnew_; (first | rw [← Ny451.out] at ho4 | (simp only [Int.reduceToNat] at ho4; rw [← Ny451.out] at ho4)); have HO453 := yA (Kd.R_lower ho4 (yX (mB HB.out))); replace HB := yA (zD (mB HB.out) hb); clear hb ho4))
 go_loopg [5, 6] k (fun kq v5 v6 w' => ∃ (x5_1 : List Int) (x6_1 : Int), v6 = .int .i64 x6_1 ∧ Aside0 (spec_PadDigits.l0 kq l0 a1 x5_1 x6_1 = some r) ∧ Aside0 (kq ≤ k) ∧ Aside0 (Kd.R (Kd.int .i64) 3 w' w.heap.size (fun _ => True) v5 x5_1) ∧ Aside0 (Below w.heap.size w w'))
 case atStart => exact ⟨(y451), ((l0.length : Int)), (by first | rfl | (simp; done) | (simp [*]; done)), H', ⟨zT _⟩, ⟨mR HO453.out⟩, ⟨mB HB.out⟩⟩
 case round =>
  clear H'
  try clear p2
  obtain ⟨x5_1, x6_1, rfl, HA, HK1, HO_5, HB⟩ := hrel
  cases gk with
  | zero => exact absurd HA.out (by simp [spec_PadDigits.l0])
  | succ k1 =>
   have H := HA.out
   clear HA
   simp only [spec_PadDigits.l0] at H
   by_cases c5 : x6_1 < a1
   ·rw [if_pos c5] at H
    have c5b0 : decide (x6_1 < a1) = true := zH c5
    clear c5
    by_cases c6 : a1 ≤ 16
    ·rw [if_pos c6] at H
     have c6b0 : decide (a1 ≤ 16) = true := zH c6
     clear c6
     obtain ⟨c7, H⟩ := iP H
     have LMc7 := yA c7
     clear c7
     (first | ((with_reducible replace H := bS H); obtain ⟨y454, Ny454, H⟩ := H) | (obtain ⟨y454, Ny454⟩ : ∃ y_ : List Int, y_ = (x5_1 ++ [0]) := ⟨_, rfl⟩; rw [← Ny454] at H; replace Ny454 := yA Ny454))
     have H' := yA H
     clear H
     go_wp2_with (first | ((with_reducible refine gate_builtin (b := .append) (xs := #[.tmp 19, .tmp 20]) rfl ?_); at_builtin; refine Kd.R_append (Kd.int .i64) (w0 := w) w.heap.size rfl (.tmp 19) (.tmp 20) 38 3 (.int .i64 0) 8 rfl Try.underlying38 info3 rfl (by decide) (by omega) u5 x5_1 0 [.int .i64 0] (fun _ => True) (fun _ => False) rfl rfl ?aP (fun _ hk => hk.elim) ?aF ?aO ?aB ?aS ?aL ?_; (case aP => exact rfl); (case aB => exact (mB HB.out)); (case aF => exact (fun _ _ => trivial)); (case aO => exact (mR HO_5.out)); (case aS => exact (yX (mB HB.out))); (case aL => have := LMc7.out; omega); intro v455 w8 ho hb hg hat; rw [← Ny454.out] at ho; replace HB := yA (hb); have HO456 := yA (ho); clear HO_5; clear ho hb hg hat))
     go_roundg k1
     case measure => have := HK1.out; omega
     case rel => exact ⟨(y454), (wrap64 (x6_1 + 1)), (by first | rfl | (simp; done) | (simp [*]; done)), H', ⟨by have := HK1.out; omega⟩, ⟨mR HO456.out⟩, ⟨mB HB.out⟩⟩
    ·rw [if_neg c6] at H
     have c6b0 : decide (a1 ≤ 16) = false := decide_eq_false c6
     clear c6
     obtain ⟨c9, H⟩ := iP H
     have LMc9 := yA c9
     clear c9
     (first | ((with_reducible replace H := bS H); obtain ⟨y457, Ny457, H⟩ := H) | (obtain ⟨y457, Ny457⟩ : ∃ y_ : List Int, y_ = (x5_1 ++ l0) := ⟨_, rfl⟩; rw [← Ny457] at H; replace Ny457 := yA Ny457))
     obtain rfl := zU H
     go_wp2_with (first | ((with_reducible refine gate_builtin (b := .append) (xs := #[.tmp 22, .tmp 23]) rfl ?_); at_builtin; refine Kd.R_append_rows (Kd.int .i64) (w0 := w) w.heap.size rfl (.tmp 22) (.tmp 23) 38 3 (.int .i64 0) 8 rfl Try.underlying38 info3 rfl (by decide) (by omega) u5 x5_1 l0 _ _ _ (fun _ => True) (fun _ => False) rfl rfl ?aO ?aR (fun _ _ h => h) (fun _ h => h.elim) ?aF ?aB ?aS ?aL ?_; (case aR => exact mC (yM HR0.out HB.out)); (case aB => exact (mB HB.out)); (case aF => exact (fun _ _ => trivial)); (case aO => exact (mR HO_5.out)); (case aS => exact (yX (mB HB.out))); (case aL => have := LMc9.out; omega); intro v458 w10 ho hb hg hat; rw [← Ny457.out] at ho; replace HB := yA (hb); have HO459 := yA (ho); clear HO_5; clear ho hb hg hat))
     go_ret
     exact ⟨_, by first | rfl | (simp [errW_none, errW_some] <;> rfl) | (simp [*, errW_none, errW_some] <;> rfl), by (with_reducible repeat (first | apply yB | apply yC | apply yD)); exact HO459.out, by repeat (first | (with_reducible first | exact HB.out | apply yO | apply yN | apply yP) | exact HB.out)⟩
   ·rw [if_neg c5] at H
    have c5b0 : decide (x6_1 < a1) = false := decide_eq_false c5
    clear c5
    obtain ⟨c11, H⟩ := iP H
    have LMc11 := yA c11
    clear c11
    (first | ((with_reducible replace H := bS H); obtain ⟨y460, Ny460, H⟩ := H) | (obtain ⟨y460, Ny460⟩ : ∃ y_ : List Int, y_ = (x5_1 ++ l0) := ⟨_, rfl⟩; rw [← Ny460] at H; replace Ny460 := yA Ny460))
    obtain rfl := zU H
    go_wp2_with (first | ((with_reducible refine gate_builtin (b := .append) (xs := #[.tmp 22, .tmp 23]) rfl ?_); at_builtin; refine Kd.R_append_rows (Kd.int .i64) (w0 := w) w.heap.size rfl (.tmp 22) (.tmp 23) 38 3 (.int .i64 0) 8 rfl Try.underlying38 info3 rfl (by decide) (by omega) u5 x5_1 l0 _ _ _ (fun _ => True) (fun _ => False) rfl rfl ?aO ?aR (fun _ _ h => h) (fun _ h => h.elim) ?aF ?aB ?aS ?aL ?_; (case aR => exact mC (yM HR0.out HB.out)); (case aB => exact (mB HB.out)); (case aF => exact (fun _ _ => trivial)); (case aO => exact (mR HO_5.out)); (case aS => exact (yX (mB HB.out))); (case aL => have := LMc11.out; omega); intro v461 w12 ho hb hg hat; rw [← Ny460.out] at ho; replace HB := yA (hb); have HO462 := yA (ho); clear HO_5; clear ho hb hg hat))
    go_ret
    exact ⟨_, by first | rfl | (simp [errW_none, errW_some] <;> rfl) | (simp [*, errW_none, errW_some] <;> rfl), by (with_reducible repeat (first | apply yB | apply yC | apply yD)); exact HO462.out, by repeat (first | (with_reducible first | exact HB.out | apply yO | apply yN | apply yP) | exact HB.out)⟩

end Go.Proofs.Ytgopcliohchkmaa.Q
