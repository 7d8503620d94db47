-- written by a program of this session
-- squeezed
-- compact
-- shrunk
import Derived.Test.YtgopcliohchkmaaQ0
import Derived.Test.YtgopcliohchkmaaQ50
import Derived.Test.YtgopcliohchkmaaQ51
namespace Go.Proofs.Ytgopcliohchkmaa.Q
open Go.RowKit Go.Proofs.YtgopcliohchkmaaW.PrintWords Go.Proofs.YtgopcliohchkmaaW.PrintLast Go.Proofs.YtgopcliohchkmaaW.PrintMore
set_option linter.unusedVariables false
set_option linter.unusedSimpArgs false

/-! ### spec_LetterOf: function 70 -/
def spec_LetterOf.f (k : Nat) (a0 : Int) (l1 : List Int) : Option (Int) := (spec_AreDigits.f k l1 a0).bind fun t468 => (if t468 = true then (if (l1.length : Int) > 3 then (some (-1)) else ((spec_ValueOf.f k l1 a0).bind fun t469 => (some t469))) else (some (-1)))
theorem spec_LetterOf.mono : ∀ a0 a1 k, LeO (spec_LetterOf.f k a0 a1) (spec_LetterOf.f (k + 1) a0 a1) := by
 intro a0 a1 k
 unfold spec_LetterOf.f
 repeat' (with_reducible first | exact spec_AreDigits.mono _ _ _ | exact spec_ValueOf.mono _ _ _ | exact LeO.refl _ | exact LeO.none _ | refine LeO.ite ?_ ?_ | refine LeO.bind ?_ fun _ => ?_)
set_option maxHeartbeats 8000000 in
set_option maxRecDepth 100000 in
theorem spec_LetterOf.calls (k : Nat) (a0 : Int) (A1 : Option Addr) (c1 : Nat) (l1 : List Int) (r : Int) (w : World) (hr1 : Kd.C (Kd.int .i64) w A1 l1.length l1) (hc1 : l1.length ≤ c1) (h : spec_LetterOf.f k a0 l1 = some r) :
  Calls Try.prog 70 #[.int .i64 a0, .slice A1 l1.length c1] w fun e w' => e = .returned (.int .i64 r) ∧ Drawn0 w w' := by
 have HR1 := yA hr1
 have HC1 := yA hc1
 clear hr1 hc1
 have H : ((spec_AreDigits.f k l1 a0).bind fun t468 => (if t468 = true then (if (l1.length : Int) > 3 then (some (-1)) else ((spec_ValueOf.f k l1 a0).bind fun t469 => (some t469))) else (some (-1)))) = some r := h
 clear h
 obtain ⟨t468, A3, H⟩ := bE H
 by_cases c4 : t468 = true
 ·subst c4
  replace H := iT H
  by_cases c5 : (l1.length : Int) > 3
  ·rw [if_pos c5] at H
   have c5b0 : decide (3 < (l1.length : Int)) = true := zH c5
   have c5b1 : decide (3 < l1.length) = true := zH (by omega)
   clear c5
   obtain rfl := zU H
   go_enter Try.func70, Try.ntmps70
   go_wp2_with (first | ((with_reducible refine zS (f := 95) rfl ?_); refine goesL_ (some 7) rfl rfl Try.func95 (by kernel_rfl) rfl #[.slice A1 l1.length c1, .int .i64 a0] rfl (by (try simp only [zI, zJ, zK]); first | done | rfl | (simp only [zL, zM]; rfl)) ?_; (with_reducible refine (spec_AreDigits.calls k _ _ l1 a0 true _ ?side1 ?side2 A3.out).mono ?_); (case side1 => exact mC HR1.out); (case side2 => exact HC1.out); rintro e w' ⟨rfl, ⟨nd, rfl⟩⟩; refine ⟨_, rfl, ?_⟩))
   go_ret
   exact ⟨by first | rfl | (simp; done) | (simp [*]; done), by repeat (first | exact Drawn0.refl _ | apply Drawn0.step)⟩
  ·rw [if_neg c5] at H
   have c5b0 : decide (3 < (l1.length : Int)) = false := decide_eq_false c5
   have c5b1 : decide (3 < l1.length) = false := decide_eq_false (by omega)
   clear c5
   obtain ⟨t469, A6, H⟩ := bE H
   obtain rfl := zU H
   go_enter Try.func70, Try.ntmps70
   go_wp2_with (first | ((with_reducible refine zS (f := 95) rfl ?_); refine goesL_ (some 7) rfl rfl Try.func95 (by kernel_rfl) rfl #[.slice A1 l1.length c1, .int .i64 a0] rfl (by (try simp only [zI, zJ, zK]); first | done | rfl | (simp only [zL, zM]; rfl)) ?_; (with_reducible refine (spec_AreDigits.calls k _ _ l1 a0 true _ ?side1 ?side2 A3.out).mono ?_); (case side1 => exact mC HR1.out); (case side2 => exact HC1.out); rintro e w' ⟨rfl, ⟨nd, rfl⟩⟩; refine ⟨_, rfl, ?_⟩) | ((with_reducible refine zS (f := 96) rfl ?_); refine goesL_ (some 16) rfl rfl Try.func96 (by kernel_rfl) rfl #[.slice A1 l1.length c1, .int .i64 a0] rfl (by (try simp only [zI, zJ, zK]); first | done | rfl | (simp only [zL, zM]; rfl)) ?_; (with_reducible refine (spec_ValueOf.calls k _ _ l1 a0 t469 _ ?side1 ?side2 A6.out).mono ?_); (case side1 => exact mC HR1.out); (case side2 => exact HC1.out); rintro e w' ⟨rfl, ⟨nd, rfl⟩⟩; refine ⟨_, rfl, ?_⟩))
   go_ret
   exact ⟨by first | rfl | (simp; done) | (simp [*]; done), by repeat (first | exact Drawn0.refl _ | apply Drawn0.step)⟩
 ·replace c4 := Bool.eq_false_iff.mpr c4
  subst c4
  replace H := iF H
  obtain rfl := zU H
  go_enter Try.func70, Try.ntmps70
  go_wp2_with (first | ((with_reducible refine zS (f := 95) rfl ?_); refine goesL_ (some 7) rfl rfl Try.func95 (by kernel_rfl) rfl #[.slice A1 l1.length c1, .int .i64 a0] rfl (by (try simp only [zI, zJ, zK]); first | done | rfl | (simp only [zL, zM]; rfl)) ?_; (with_reducible refine (spec_AreDigits.calls k _ _ l1 a0 false _ ?side1 ?side2 A3.out).mono ?_); (case side1 => exact mC HR1.out); (case side2 => exact HC1.out); rintro e w' ⟨rfl, ⟨nd, rfl⟩⟩; refine ⟨_, rfl, ?_⟩))
  go_ret
  exact ⟨by first | rfl | (simp; done) | (simp [*]; done), by repeat (first | exact Drawn0.refl _ | apply Drawn0.step)⟩

end Go.Proofs.Ytgopcliohchkmaa.Q
