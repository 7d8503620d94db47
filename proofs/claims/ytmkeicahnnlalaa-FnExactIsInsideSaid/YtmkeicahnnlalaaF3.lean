-- a function that is used in pure proofs alone
import Derived.Test.YtmkeicahnnlalaaF2
namespace Go.Proofs.Ytmkeicahnnlalaa.Q
open Go.RowKit Go.Proofs.YtmkeicahnnlalaaW.PrintWords
def impl_ReducedRelation.f (k : Nat) (a0_0 : Int) (a0_1 : Int) (l0_2 : List (List Int)) (l0_3 : List Bool) : Option (Int × Int × (List (List Int)) × List Bool × Bool) := (impl_IsRelation.f k a0_0 a0_1 l0_2 l0_3).bind fun t983 => (if t983 = true then ((impl_Relation_reduced.f k a0_0 a0_1 l0_2 l0_3).bind fun bt984 => (some (bt984.1, bt984.2.1, bt984.2.2.1, bt984.2.2.2, true))) else (some (0, 0, ([] : List (List Int)), ([] : List Bool), false)))
end Go.Proofs.Ytmkeicahnnlalaa.Q
