/- Contracts over memory of laws that were walked with the plain evaluator -/
import Derived.Test.YtefelghmmpmigaaQ0
import Derived.Test.YtefelghmmpmigaaEq
import Derived.Test.YtefelghmmpmigaaW3
namespace Go.Proofs.Ytefelghmmpmigaa.Q
open Go.Ev Go.RowKit Go.Proofs.YtefelghmmpmigaaW.PrintWords Go.Proofs.YtefelghmmpmigaaW.PrintLast Go.Proofs.YtefelghmmpmigaaW.PrintMore
set_option linter.unusedVariables false
/-! ### laws_FnExactAllTrack: function 7 -/
theorem laws_FnExactAllTrack.calls (k : Nat) (a0_0 : Int) (a0_1 : Int) (A0_2 : Option Addr) (c0_2 : Nat) (l0_2 : List (List Int)) (A0_3 : Option Addr) (c0_3 : Nat) (l0_3 : List Bool) (a1 : Int) (r : Bool) (hr_ : r = true) (w : World) (hr0_2 : Kd.C (Kd.slice 3 (Kd.int .i64)) w A0_2 l0_2.length l0_2) (hc0_2 : l0_2.length ≤ c0_2) (hr0_3 : Kd.C Kd.bool w A0_3 l0_3.length l0_3) (hc0_3 : l0_3.length ≤ c0_3) (h : laws_FnExactAllTrack.f k a0_0 a0_1 l0_2 l0_3 a1 = some r) :
 Calls Try.prog 7 #[.agg #[.int .i64 a0_0, .int .i64 a0_1, .slice A0_2 l0_2.length c0_2, .slice A0_3 l0_3.length c0_3], .int .i64 a1] w fun e w' => e = .returned (.bool r) ∧ Below w.heap.size w w' := by
 refine (calls_ofC (us := [.agg #[.int .i64 a0_0, .int .i64 a0_1, .slice A0_2 l0_2.length c0_2, .slice A0_3 l0_3.length c0_3], .int .i64 a1]) (laws_FnExactAllTrack.pr h) ⟨aggArg (us := [.int .i64 a0_0, .int .i64 a0_1, .slice A0_2 l0_2.length c0_2, .slice A0_3 l0_3.length c0_3]) ⟨.int _ _, .int _ _, C_rows hr0_2 hc0_2, C_bools hr0_3 hc0_3, trivial⟩ (by simp [Value.oneCell']), .int _ _, trivial⟩).mono ?_
 rintro e w' ⟨v, F, rfl, hR, hN, hF, hb⟩
 obtain rfl := res_bool hR
 exact ⟨rfl, hb⟩
end Go.Proofs.Ytefelghmmpmigaa.Q
