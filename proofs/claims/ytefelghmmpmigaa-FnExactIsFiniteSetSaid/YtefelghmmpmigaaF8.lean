/- The laws, as plain functions -/
import Derived.Test.YtefelghmmpmigaaF2
import Derived.Test.YtefelghmmpmigaaF1
-- the laws, as plain functions
namespace Go.Proofs.Ytefelghmmpmigaa.Q
open Go.RowKit Go.Proofs.YtefelghmmpmigaaW.PrintWords
set_option linter.unusedVariables false
/-! laws_FnExactIsFiniteSet: function 8 -/
def laws_FnExactIsFiniteSet.f (k : Nat) (a0_0 : Int) (a0_1 : Int) (l0_2 : List (List Int)) (l0_3 : List Bool) : Option (Bool) := (laws_szRelation.f k a0_0 a0_1 l0_2 l0_3 1048576).bind fun c1 => if c1 < 0 then some true else (laws_toRelation.f k a0_0 a0_1 l0_2 l0_3).bind fun c2 => (spec_IsFiniteSet.f k c2.1 c2.2.1 c2.2.2.1 c2.2.2.2).bind fun c3 => (impl_IsFiniteSet.f k c2.1 c2.2.1 c2.2.2.1 c2.2.2.2).bind fun c4 => if c4 = c3 then ((laws_eqRelation.f k c2.1 c2.2.1 c2.2.2.1 c2.2.2.2 c2.1 c2.2.1 c2.2.2.1 c2.2.2.2).bind fun c5 => if c5 = true then (some true) else none) else none
end Go.Proofs.Ytefelghmmpmigaa.Q
