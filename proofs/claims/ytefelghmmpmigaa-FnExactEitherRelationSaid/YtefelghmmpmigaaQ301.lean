/- Contracts over memory of laws that were walked with the plain evaluator -/
import Derived.Test.YtefelghmmpmigaaQ0
import Derived.Test.YtefelghmmpmigaaEq
import Derived.Test.YtefelghmmpmigaaW2
import Derived.Test.YtefelghmmpmigaaW3
namespace Go.Proofs.Ytefelghmmpmigaa.Q
open Go.Ev Go.RowKit Go.Proofs.YtefelghmmpmigaaW.PrintWords Go.Proofs.YtefelghmmpmigaaW.PrintLast Go.Proofs.YtefelghmmpmigaaW.PrintMore
set_option linter.unusedVariables false
/-! ### laws_FnExactBothRelations: function 4 -/
theorem laws_FnExactBothRelations.calls (k : Nat) (a0_0 : Int) (a0_1 : Int) (A0_2 : Option Addr) (c0_2 : Nat) (l0_2 : List (List Int)) (A0_3 : Option Addr) (c0_3 : Nat) (l0_3 : List Bool) (a1_0 : Int) (a1_1 : Int) (A1_2 : Option Addr) (c1_2 : Nat) (l1_2 : List (List Int)) (A1_3 : Option Addr) (c1_3 : Nat) (l1_3 : List Bool) (r : Bool) (hr_ : r = true) (w : World) (hr0_2 : Kd.C (Kd.slice 3 (Kd.int .i64)) w A0_2 l0_2.length l0_2) (hc0_2 : l0_2.length ≤ c0_2) (hr0_3 : Kd.C Kd.bool w A0_3 l0_3.length l0_3) (hc0_3 : l0_3.length ≤ c0_3) (hr1_2 : Kd.C (Kd.slice 3 (Kd.int .i64)) w A1_2 l1_2.length l1_2) (hc1_2 : l1_2.length ≤ c1_2) (hr1_3 : Kd.C Kd.bool w A1_3 l1_3.length l1_3) (hc1_3 : l1_3.length ≤ c1_3) (h : laws_FnExactBothRelations.f k a0_0 a0_1 l0_2 l0_3 a1_0 a1_1 l1_2 l1_3 = some r) :
 Calls Try.prog 4 #[.agg #[.int .i64 a0_0, .int .i64 a0_1, .slice A0_2 l0_2.length c0_2, .slice A0_3 l0_3.length c0_3], .agg #[.int .i64 a1_0, .int .i64 a1_1, .slice A1_2 l1_2.length c1_2, .slice A1_3 l1_3.length c1_3]] w fun e w' => e = .returned (.bool r) ∧ Below w.heap.size w w' := by
 refine (calls_ofC (us := [.agg #[.int .i64 a0_0, .int .i64 a0_1, .slice A0_2 l0_2.length c0_2, .slice A0_3 l0_3.length c0_3], .agg #[.int .i64 a1_0, .int .i64 a1_1, .slice A1_2 l1_2.length c1_2, .slice A1_3 l1_3.length c1_3]]) (laws_FnExactBothRelations.pr h) ⟨aggArg (us := [.int .i64 a0_0, .int .i64 a0_1, .slice A0_2 l0_2.length c0_2, .slice A0_3 l0_3.length c0_3]) ⟨.int _ _, .int _ _, C_rows hr0_2 hc0_2, C_bools hr0_3 hc0_3, trivial⟩ (by simp [Value.oneCell']), aggArg (us := [.int .i64 a1_0, .int .i64 a1_1, .slice A1_2 l1_2.length c1_2, .slice A1_3 l1_3.length c1_3]) ⟨.int _ _, .int _ _, C_rows hr1_2 hc1_2, C_bools hr1_3 hc1_3, trivial⟩ (by simp [Value.oneCell']), trivial⟩).mono ?_
 rintro e w' ⟨v, F, rfl, hR, hN, hF, hb⟩
 obtain rfl := res_bool hR
 exact ⟨rfl, hb⟩
/-! ### laws_FnExactEitherRelation: function 5 -/
theorem laws_FnExactEitherRelation.calls (k : Nat) (a0_0 : Int) (a0_1 : Int) (A0_2 : Option Addr) (c0_2 : Nat) (l0_2 : List (List Int)) (A0_3 : Option Addr) (c0_3 : Nat) (l0_3 : List Bool) (a1_0 : Int) (a1_1 : Int) (A1_2 : Option Addr) (c1_2 : Nat) (l1_2 : List (List Int)) (A1_3 : Option Addr) (c1_3 : Nat) (l1_3 : List Bool) (r : Bool) (hr_ : r = true) (w : World) (hr0_2 : Kd.C (Kd.slice 3 (Kd.int .i64)) w A0_2 l0_2.length l0_2) (hc0_2 : l0_2.length ≤ c0_2) (hr0_3 : Kd.C Kd.bool w A0_3 l0_3.length l0_3) (hc0_3 : l0_3.length ≤ c0_3) (hr1_2 : Kd.C (Kd.slice 3 (Kd.int .i64)) w A1_2 l1_2.length l1_2) (hc1_2 : l1_2.length ≤ c1_2) (hr1_3 : Kd.C Kd.bool w A1_3 l1_3.length l1_3) (hc1_3 : l1_3.length ≤ c1_3) (h : laws_FnExactEitherRelation.f k a0_0 a0_1 l0_2 l0_3 a1_0 a1_1 l1_2 l1_3 = some r) :
 Calls Try.prog 5 #[.agg #[.int .i64 a0_0, .int .i64 a0_1, .slice A0_2 l0_2.length c0_2, .slice A0_3 l0_3.length c0_3], .agg #[.int .i64 a1_0, .int .i64 a1_1, .slice A1_2 l1_2.length c1_2, .slice A1_3 l1_3.length c1_3]] w fun e w' => e = .returned (.bool r) ∧ Below w.heap.size w w' := by
 refine (calls_ofC (us := [.agg #[.int .i64 a0_0, .int .i64 a0_1, .slice A0_2 l0_2.length c0_2, .slice A0_3 l0_3.length c0_3], .agg #[.int .i64 a1_0, .int .i64 a1_1, .slice A1_2 l1_2.length c1_2, .slice A1_3 l1_3.length c1_3]]) (laws_FnExactEitherRelation.pr h) ⟨aggArg (us := [.int .i64 a0_0, .int .i64 a0_1, .slice A0_2 l0_2.length c0_2, .slice A0_3 l0_3.length c0_3]) ⟨.int _ _, .int _ _, C_rows hr0_2 hc0_2, C_bools hr0_3 hc0_3, trivial⟩ (by simp [Value.oneCell']), aggArg (us := [.int .i64 a1_0, .int .i64 a1_1, .slice A1_2 l1_2.length c1_2, .slice A1_3 l1_3.length c1_3]) ⟨.int _ _, .int _ _, C_rows hr1_2 hc1_2, C_bools hr1_3 hc1_3, trivial⟩ (by simp [Value.oneCell']), trivial⟩).mono ?_
 rintro e w' ⟨v, F, rfl, hR, hN, hF, hb⟩
 obtain rfl := res_bool hR
 exact ⟨rfl, hb⟩
end Go.Proofs.Ytefelghmmpmigaa.Q
