/- Contracts over memory of laws that were walked with the plain evaluator -/
import Derived.Test.YtefelghmmpmigaaQ0
import Derived.Test.YtefelghmmpmigaaEq
import Derived.Test.YtefelghmmpmigaaW2
namespace Go.Proofs.Ytefelghmmpmigaa.Q
open Go.Ev Go.RowKit Go.Proofs.YtefelghmmpmigaaW.PrintWords Go.Proofs.YtefelghmmpmigaaW.PrintLast Go.Proofs.YtefelghmmpmigaaW.PrintMore
set_option linter.unusedVariables false
/-! ### laws_FnExactTermRelation: function 3 -/
theorem laws_FnExactTermRelation.calls (k : Nat) (a0_0 : Int) (A0_1 : Option Addr) (c0_1 : Nat) (l0_1 : List (List Int)) (A0_2 : Option Addr) (c0_2 : Nat) (l0_2 : List Int) (a1 : Int) (r : Bool) (hr_ : r = true) (w : World) (hr0_1 : Kd.C (Kd.slice 3 (Kd.int .i64)) w A0_1 l0_1.length l0_1) (hc0_1 : l0_1.length ≤ c0_1) (hr0_2 : Kd.C (Kd.int .i64) w A0_2 l0_2.length l0_2) (hc0_2 : l0_2.length ≤ c0_2) (h : laws_FnExactTermRelation.f k a0_0 l0_1 l0_2 a1 = some r) :
 Calls Try.prog 3 #[.agg #[.int .i64 a0_0, .slice A0_1 l0_1.length c0_1, .slice A0_2 l0_2.length c0_2], .int .i64 a1] w fun e w' => e = .returned (.bool r) ∧ Below w.heap.size w w' := by
 refine (calls_ofC (us := [.agg #[.int .i64 a0_0, .slice A0_1 l0_1.length c0_1, .slice A0_2 l0_2.length c0_2], .int .i64 a1]) (laws_FnExactTermRelation.pr h) ⟨aggArg (us := [.int .i64 a0_0, .slice A0_1 l0_1.length c0_1, .slice A0_2 l0_2.length c0_2]) ⟨.int _ _, C_rows hr0_1 hc0_1, C_ints hr0_2 hc0_2, trivial⟩ (by simp [Value.oneCell']), .int _ _, trivial⟩).mono ?_
 rintro e w' ⟨v, F, rfl, hR, hN, hF, hb⟩
 obtain rfl := res_bool hR
 exact ⟨rfl, hb⟩
end Go.Proofs.Ytefelghmmpmigaa.Q
