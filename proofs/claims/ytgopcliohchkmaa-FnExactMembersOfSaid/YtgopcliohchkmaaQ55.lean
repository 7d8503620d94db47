-- written by a program of this session
-- squeezed
-- compact
-- shrunk
import Derived.Test.YtgopcliohchkmaaQ0
namespace Go.Proofs.Ytgopcliohchkmaa.Q
open Go.RowKit Go.Proofs.YtgopcliohchkmaaW.PrintWords Go.Proofs.YtgopcliohchkmaaW.PrintLast Go.Proofs.YtgopcliohchkmaaW.PrintMore
set_option linter.unusedVariables false
set_option linter.unusedSimpArgs false

/-! ### impl_letterOf: function 92 -/
def impl_letterOf.l0 : Nat → Int → Int → List Int → Int → Int → Option (Int)
 | 0, _, _, _, _, _ => none
 | k + 1, x0, x5, x8, x9, x10 => if x10 < x9 then (if 0 ≤ x10 then (if x10 < (x8.length : Int) then (impl_letterOf.l0 k x0 (wrap64 ((wrap64 (x5 * x0)) + (rd x8 x10))) x8 x9 (wrap64 (x10 + 1))) else (none)) else (none)) else (some x5)
def impl_letterOf.f (k : Nat) (a0 : Int) (l1 : List Int) : Option (Int) := impl_letterOf.l0 k a0 0 l1 (l1.length : Int) 0
theorem impl_letterOf.mono_l : ∀ k, (∀ y0 y1 y2 y3 y4, LeO (impl_letterOf.l0 k y0 y1 y2 y3 y4) (impl_letterOf.l0 (k + 1) y0 y1 y2 y3 y4))
 | 0 => fun _ _ _ _ _ r h => by simp [impl_letterOf.l0] at h
 | k + 1 => by
  have ih0 := impl_letterOf.mono_l k
  intros
  unfold impl_letterOf.l0
  repeat' (with_reducible first | exact ih0 _ _ _ _ _ | exact LeO.refl _ | exact LeO.none _ | refine LeO.ite ?_ ?_ | refine LeO.bind ?_ fun _ => ?_)
theorem impl_letterOf.mono : ∀ a0 a1 k, LeO (impl_letterOf.f k a0 a1) (impl_letterOf.f (k + 1) a0 a1) := by
 intro a0 a1 k
 have ih0 := impl_letterOf.mono_l k
 unfold impl_letterOf.f
 repeat' (with_reducible first | exact ih0 _ _ _ _ _ | exact LeO.refl _ | exact LeO.none _ | refine LeO.ite ?_ ?_ | refine LeO.bind ?_ fun _ => ?_)
set_option maxHeartbeats 8000000 in
set_option maxRecDepth 100000 in
theorem impl_letterOf.calls (k : Nat) (a0 : Int) (A1 : Option Addr) (c1 : Nat) (l1 : List Int) (r : Int) (w : World) (hr1 : Kd.C (Kd.int .i64) w A1 l1.length l1) (hc1 : l1.length ≤ c1) (h : impl_letterOf.f k a0 l1 = some r) :
  Calls Try.prog 92 #[.int .i64 a0, .slice A1 l1.length c1] w fun e w' => e = .returned (.int .i64 r) ∧ Drawn0 w w' := by
 have HR1 := yA hr1
 have HC1 := yA hc1
 clear hr1 hc1
 have H : (impl_letterOf.l0 k a0 0 l1 (l1.length : Int) 0) = some r := h
 clear h
 have H' := yA H
 clear H
 go_enter Try.func92, Try.ntmps92
 go_wp2
 go_loopg [5, 10] k (fun kq v5 v10 w' => ∃ (x5_1 : Int) (x10_1 : Int), v5 = .int .i64 x5_1 ∧ v10 = .int .i64 x10_1 ∧ Aside0 (impl_letterOf.l0 kq a0 x5_1 l1 (l1.length : Int) x10_1 = some r) ∧ Aside0 (kq ≤ k) ∧ Drawn0 w w')
 case atStart => exact ⟨(0), (0), (by first | rfl | (simp; done) | (simp [*]; done)), (by first | rfl | (simp; done) | (simp [*]; done)), H', ⟨zT _⟩, by repeat (first | exact Drawn0.refl _ | apply Drawn0.step)⟩
 case round =>
  clear H'
  (try clear c1);(try clear p2)
  obtain ⟨x5_1, x10_1, rfl, rfl, HA, HK1, ⟨m1, rfl⟩⟩ := hrel
  cases gk with
  | zero => exact absurd HA.out (by simp [impl_letterOf.l0])
  | succ k1 =>
   have H := HA.out
   clear HA
   simp only [impl_letterOf.l0] at H
   by_cases c3 : x10_1 < (l1.length : Int)
   ·rw [if_pos c3] at H
    have c3b0 : decide (x10_1 < (l1.length : Int)) = true := zH c3
    clear c3
    obtain ⟨c4, H⟩ := iP H
    have c4b0 : decide (0 ≤ x10_1) = true := zH c4
    clear c4
    obtain ⟨c5, H⟩ := iP H
    have c5b0 : decide (x10_1 < (l1.length : Int)) = true := zH c5
    clear c5
    have H' := yA H
    clear H
    have p498 : 0 ≤ (x10_1 : Int) := zG (by assumption)
    have q498 : x10_1 < (l1.length : Int) := zG (by assumption)
    obtain ⟨ad498, e498, hx498_0⟩ := Kd.at_int HR1.out x10_1 p498 q498
    cases e498
    replace p498 := eq_true p498
    replace q498 := eq_true q498
    go_wp2
    go_roundg k1
    case measure => have := HK1.out; omega
    case rel => exact ⟨(wrap64 ((wrap64 (x5_1 * a0)) + (rd l1 x10_1))), (wrap64 (x10_1 + 1)), (by first | rfl | (simp; done) | (simp [*]; done)), (by first | rfl | (simp; done) | (simp [*]; done)), H', ⟨by have := HK1.out; omega⟩, by repeat (first | exact Drawn0.refl _ | apply Drawn0.step)⟩
   ·rw [if_neg c3] at H
    have c3b0 : decide (x10_1 < (l1.length : Int)) = false := decide_eq_false c3
    clear c3
    obtain rfl := zU H
    go_wp2
    go_ret
    exact ⟨by first | rfl | (simp; done) | (simp [*]; done), by repeat (first | exact Drawn0.refl _ | apply Drawn0.step)⟩

end Go.Proofs.Ytgopcliohchkmaa.Q
