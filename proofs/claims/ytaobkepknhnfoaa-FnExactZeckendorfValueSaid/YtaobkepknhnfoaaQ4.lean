-- written by a program of this session (a turned copy of the kit's print) out of the translation
import Derived.Test.YtaobkepknhnfoaaQ0
import Derived.Test.YtaobkepknhnfoaaQ3
namespace Go.Proofs.Ytaobkepknhnfoaa.Q
open Go.RowKit Go.Proofs.YtaobkepknhnfoaaW.PrintWords Go.Proofs.YtaobkepknhnfoaaW.PrintLast Go.Proofs.YtaobkepknhnfoaaW.PrintMore
attribute [local go_sem] max2_int min2_int max_two min_two max_three min_three max_four min_four   -- for this text's walks alone
set_option linter.unusedVariables false
set_option linter.unusedSimpArgs false

/-! ### impl_FibonacciNumber: function 12 -/
def fibV (x : Int) : Int := if 0 ≤ x ∧ x ≤ 40 then fibN x.toNat else 0
def impl_FibonacciNumber.f (a0 : Int) : Option (Int) := some (fibV a0)
set_option maxHeartbeats 1000000 in
set_option maxRecDepth 100000 in
theorem impl_FibonacciNumber.in_ (k : Nat) (w : World) (h : k < 41) :
    Calls Try.prog 12 #[.int .i64 (k : Int)] w fun e w' => e = .returned (.int .i64 (fibN k)) ∧ Below w.heap.size w w' := by
  have hi := fib_index k h
  go_enter Try.func12, Try.ntmps12
  go_wp2_with (go_at_call 36; refine (impl_fibonacci.calls _).mono ?_; rintro e w' ⟨rfl, hb⟩)
  go_ret
  exact ⟨rfl, by assumption⟩
set_option maxHeartbeats 1000000 in
theorem impl_FibonacciNumber.lo (a : Int) (w : World) (h : a < 0) :
    Calls Try.prog 12 #[.int .i64 a] w fun e w' => e = .returned (.int .i64 0) ∧ Below w.heap.size w w' := by
  go_enter Try.func12, Try.ntmps12
  go_wp2_with fail
  go_ret
  exact ⟨rfl, Below.refl _ _⟩
set_option maxHeartbeats 1000000 in
theorem impl_FibonacciNumber.hi (a : Int) (w : World) (h : 40 < a) :
    Calls Try.prog 12 #[.int .i64 a] w fun e w' => e = .returned (.int .i64 0) ∧ Below w.heap.size w w' := by
  go_enter Try.func12, Try.ntmps12
  go_wp2_with fail
  go_ret
  exact ⟨rfl, Below.refl _ _⟩
theorem impl_FibonacciNumber.calls (a0 : Int) (r : Int) (w : World) (h : impl_FibonacciNumber.f a0 = some r) :
    Calls Try.prog 12 #[.int .i64 a0] w fun e w' => e = .returned (.int .i64 r) ∧ Below w.heap.size w w' := by
  obtain rfl := Option.some.inj h
  unfold fibV
  by_cases h0 : a0 < 0
  · rw [if_neg (by omega)]
    exact impl_FibonacciNumber.lo a0 w h0
  · by_cases h1 : 40 < a0
    · rw [if_neg (by omega)]
      exact impl_FibonacciNumber.hi a0 w h1
    · rw [if_pos (by omega)]
      obtain ⟨k, rfl⟩ : ∃ k : Nat, a0 = k := ⟨a0.toNat, by omega⟩
      exact impl_FibonacciNumber.in_ k w (by omega)

end Go.Proofs.Ytaobkepknhnfoaa.Q
