-- written by a program of this session
-- squeezed
-- compact
-- shrunk
import Derived.Test.YtmkeicahnnlalaaQ0
import Derived.Test.YtmkeicahnnlalaaQ4
namespace Go.Proofs.Ytmkeicahnnlalaa.Q
open Go.RowKit Go.Proofs.YtmkeicahnnlalaaW.PrintWords Go.Proofs.YtmkeicahnnlalaaW.PrintLast Go.Proofs.YtmkeicahnnlalaaW.PrintMore
set_option linter.unusedVariables false
set_option linter.unusedSimpArgs false

/-! ### spec_l19Values: function 94 -/
def spec_l19Values.l0 : Nat → List Int → Int → Option (Bool)
 | 0, _, _ => none
 | k + 1, x0, x3 => if x3 < (x0.length : Int) then (if 0 ≤ x3 then ((spec_l1In.f (rd x0 x3) 0 60000).bind fun t884 => (if t884 = true then (spec_l19Values.l0 k x0 (wrap64 (x3 + 1))) else (some false))) else (none)) else (some ((x0.length : Int) == 3))
def spec_l19Values.f (k : Nat) (l0 : List Int) : Option (Bool) := spec_l19Values.l0 k l0 0
theorem spec_l19Values.mono_l : ∀ k, (∀ y0 y1, LeO (spec_l19Values.l0 k y0 y1) (spec_l19Values.l0 (k + 1) y0 y1))
 | 0 => fun _ _ r h => by simp [spec_l19Values.l0] at h
 | k + 1 => by
  have ih0 := spec_l19Values.mono_l k
  intros
  unfold spec_l19Values.l0
  repeat' (with_reducible first | exact ih0 _ _ | exact LeO.refl _ | exact LeO.none _ | refine LeO.ite ?_ ?_ | refine LeO.bind ?_ fun _ => ?_)
theorem spec_l19Values.mono : ∀ a0 k, LeO (spec_l19Values.f k a0) (spec_l19Values.f (k + 1) a0) := by
 intro a0 k
 have ih0 := spec_l19Values.mono_l k
 unfold spec_l19Values.f
 repeat' (with_reducible first | exact ih0 _ _ | exact LeO.refl _ | exact LeO.none _ | refine LeO.ite ?_ ?_ | refine LeO.bind ?_ fun _ => ?_)
set_option maxHeartbeats 8000000 in
set_option maxRecDepth 100000 in
theorem spec_l19Values.calls (k : Nat) (A0 : Option Addr) (c0 : Nat) (l0 : List Int) (r : Bool) (w : World) (hr0 : Kd.C (Kd.int .i64) w A0 l0.length l0) (hc0 : l0.length ≤ c0) (h : spec_l19Values.f k l0 = some r) :
  Calls Try.prog 94 #[.slice A0 l0.length c0] w fun e w' => e = .returned (.bool r) ∧ Drawn0 w w' := by
 have HR0 := yA hr0
 have HC0 := yA hc0
 clear hr0 hc0
 have H : (spec_l19Values.l0 k l0 0) = some r := h
 clear h
 have H' := yA H
 clear H
 go_enter Try.func94, Try.ntmps94
 go_wp2
 go_loopg [3] k (fun kq v3 w' => ∃ (x3_1 : Int), v3 = .int .i64 x3_1 ∧ Aside0 (spec_l19Values.l0 kq l0 x3_1 = some r) ∧ Aside0 (kq ≤ k) ∧ Drawn0 w w')
 case atStart => exact ⟨(0), (by first | rfl | (simp; done) | (simp [*]; done)), H', ⟨zT _⟩, by repeat (first | exact Drawn0.refl _ | apply Drawn0.step)⟩
 case round =>
  clear H'
  obtain ⟨x3_1, rfl, HA, HK1, ⟨m1, rfl⟩⟩ := hrel
  cases gk with
  | zero => exact absurd HA.out (by simp [spec_l19Values.l0])
  | succ k1 =>
   have H := HA.out
   clear HA
   simp only [spec_l19Values.l0] at H
   by_cases c2 : x3_1 < (l0.length : Int)
   ·rw [if_pos c2] at H
    have c2b0 : decide (x3_1 < (l0.length : Int)) = true := zH c2
    clear c2
    obtain ⟨c3, H⟩ := iP H
    have c3b0 : decide (0 ≤ x3_1) = true := zH c3
    clear c3
    obtain ⟨t884, A4, H⟩ := bE H
    by_cases c5 : t884 = true
    ·subst c5
     replace H := iT H
     have H' := yA H
     clear H
     have p883 : 0 ≤ (x3_1 : Int) := zG (by assumption)
     have q883 : x3_1 < (l0.length : Int) := zG (by assumption)
     obtain ⟨ad883, e883, hx883_0⟩ := Kd.at_int HR0.out x3_1 p883 q883
     cases e883
     replace p883 := eq_true p883
     replace q883 := eq_true q883
     go_wp2_with (first | ((with_reducible refine zS (f := 39) rfl ?_); refine goesL_ (some 14) rfl rfl Try.func39 (by kernel_rfl) rfl #[.int .i64 (rd l0 x3_1), .int .i64 0, .int .i64 60000] rfl (by (try simp only [zI, zJ, zK]); first | done | rfl | (simp only [zL, zM]; rfl)) ?_; (with_reducible refine (spec_l1In.calls (rd l0 x3_1) 0 60000 true _ A4.out).mono ?_); rintro e w' ⟨rfl, ⟨nd, rfl⟩⟩; refine ⟨_, rfl, ?_⟩))
     go_roundg k1
     case measure => have := HK1.out; omega
     case rel => exact ⟨(wrap64 (x3_1 + 1)), (by first | rfl | (simp; done) | (simp [*]; done)), H', ⟨by have := HK1.out; omega⟩, by repeat (first | exact Drawn0.refl _ | apply Drawn0.step)⟩
    ·replace c5 := Bool.eq_false_iff.mpr c5
     subst c5
     replace H := iF H
     obtain rfl := zU H
     have p883 : 0 ≤ (x3_1 : Int) := zG (by assumption)
     have q883 : x3_1 < (l0.length : Int) := zG (by assumption)
     obtain ⟨ad883, e883, hx883_0⟩ := Kd.at_int HR0.out x3_1 p883 q883
     cases e883
     replace p883 := eq_true p883
     replace q883 := eq_true q883
     go_wp2_with (first | ((with_reducible refine zS (f := 39) rfl ?_); refine goesL_ (some 14) rfl rfl Try.func39 (by kernel_rfl) rfl #[.int .i64 (rd l0 x3_1), .int .i64 0, .int .i64 60000] rfl (by (try simp only [zI, zJ, zK]); first | done | rfl | (simp only [zL, zM]; rfl)) ?_; (with_reducible refine (spec_l1In.calls (rd l0 x3_1) 0 60000 false _ A4.out).mono ?_); rintro e w' ⟨rfl, ⟨nd, rfl⟩⟩; refine ⟨_, rfl, ?_⟩))
     go_ret
     exact ⟨by first | rfl | (simp; done) | (simp [*]; done), by repeat (first | exact Drawn0.refl _ | apply Drawn0.step)⟩
   ·rw [if_neg c2] at H
    have c2b0 : decide (x3_1 < (l0.length : Int)) = false := decide_eq_false c2
    clear c2
    obtain rfl := zU H
    go_wp2
    go_ret
    exact ⟨by first | rfl | (simp; done) | (simp [*]; done), by repeat (first | exact Drawn0.refl _ | apply Drawn0.step)⟩

end Go.Proofs.Ytmkeicahnnlalaa.Q
