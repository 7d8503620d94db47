/- The functions of the program and of the reference, as plain functions -/
import Derived.Test.YtmkeicahnnlalaaQ0
import Derived.Test.YtmkeicahnnlalaaQ20
import Derived.Test.YtmkeicahnnlalaaQ23
import Derived.Test.YtmkeicahnnlalaaQ24
import Derived.Test.YtmkeicahnnlalaaQ25
import Derived.Test.YtmkeicahnnlalaaQ26
-- the functions of the program, as plain functions; written by a program of this session
namespace Go.Proofs.Ytmkeicahnnlalaa.Q
open Go.RowKit Go.Proofs.YtmkeicahnnlalaaW.PrintWords Go.Proofs.YtmkeicahnnlalaaW.PrintLast Go.Proofs.YtmkeicahnnlalaaW.PrintMore
set_option linter.unusedVariables false
/-! spec_l1In: function 39 -/
def spec_l1In.f (a0 : Int) (a1 : Int) (a2 : Int) : Option (Bool) := if a0 ≥ a1 then (some (decide (a0 ≤ a2))) else (some false)
/-! spec_IsSequence: function 92 -/
mutual
def spec_IsSequence.l0 : Nat → Int → Int → List (List Int) → List Int → Option (Bool)
 | 0, _, _, _, _ => none
 | k + 1, x3, x107000, x107001, x107002 => if x3 < (x107001.length : Int) then (if 0 ≤ x3 then (if ((rd_L1 x107001 x3).length : Int) = x107000 then (spec_IsSequence.l1 k x3 0 x107000 x107001 x107002) else (some false)) else (none)) else (spec_IsSequence.l2 k 0 x107000 x107001 x107002)
def spec_IsSequence.l1 : Nat → Int → Int → Int → List (List Int) → List Int → Option (Bool)
 | 0, _, _, _, _, _ => none
 | k + 1, x3, x4, x107000, x107001, x107002 => if 0 ≤ x3 then (if x3 < (x107001.length : Int) then (if x4 < ((rd_L1 x107001 x3).length : Int) then (if 0 ≤ x4 then (if (rd (rd_L1 x107001 x3) x4) < 0 then (some false) else (if (rd (rd_L1 x107001 x3) x4) ≥ (x107001.length : Int) then (some false) else (spec_IsSequence.l1 k x3 (wrap64 (x4 + 1)) x107000 x107001 x107002))) else (none)) else (spec_IsSequence.l0 k (wrap64 (x3 + 1)) x107000 x107001 x107002)) else (none)) else (none)
def spec_IsSequence.l2 : Nat → Int → Int → List (List Int) → List Int → Option (Bool)
 | 0, _, _, _, _ => none
 | k + 1, x5, x107000, x107001, x107002 => if x5 < (x107002.length : Int) then (if 0 ≤ x5 then ((spec_l1In.f (rd x107002 x5) 0 3).bind fun t114 => (if t114 = true then (spec_IsSequence.l2 k (wrap64 (x5 + 1)) x107000 x107001 x107002) else (some false))) else (none)) else ((spec_l1In.f x107000 2 4).bind fun t115 => (if t115 = true then ((spec_l1In.f (x107001.length : Int) 1 16).bind fun t116 => (if t116 = true then (some ((x107002.length : Int) == (x107001.length : Int))) else (some false))) else (some false)))
end
def spec_IsSequence.f (k : Nat) (a0_0 : Int) (l0_1 : List (List Int)) (l0_2 : List Int) : Option (Bool) := spec_IsSequence.l0 k 0 a0_0 l0_1 l0_2
/-! spec_IsSteady: function 107 -/
def spec_IsSteady.f (k : Nat) (a0_0 : Int) (l0_1 : List (List Int)) (l0_2 : List Int) : Option (Bool) := (spec_IsSequence.f k a0_0 l0_1 l0_2).bind fun t118 => (if t118 = true then (if 0 < (l0_1.length : Int) then (if 0 < ((rd_L1 l0_1 0).length : Int) then (some ((rd (rd_L1 l0_1 0) 0) == 0)) else (none)) else (none)) else (some false))
/-! spec_l3Copy: function 108 -/
def spec_l3Copy.l0 : Nat → Int → Int → List (List Int) → List Int → Int → List (List Int) → List Int → Option (Int × (List (List Int)) × List Int)
 | 0, _, _, _, _, _, _, _ => none
 | k + 1, x4, x122000, x122001, x122002, x130000, x130001, x130002 => if x4 < (x122001.length : Int) then ((some (([] : List Int) : List Int)).bind fun y130 => (if 0 ≤ x4 then (if y130.length + (rd_L1 x122001 x4).length < 17592186044416 then (if x130001.length < 5864062014805 then (spec_l3Copy.l0 k (wrap64 (x4 + 1)) x122000 x122001 x122002 x130000 (x130001 ++ [(y130 ++ (rd_L1 x122001 x4))]) x130002) else (none)) else (none)) else (none))) else (some (x130000, x130001, x130002))
def spec_l3Copy.f (k : Nat) (a0_0 : Int) (l0_1 : List (List Int)) (l0_2 : List Int) : Option (Int × (List (List Int)) × List Int) := (some (([] : List Int) : List Int)).bind fun y123 => (if y123.length + l0_2.length < 17592186044416 then (spec_l3Copy.l0 k 0 a0_0 l0_1 l0_2 a0_0 ([] : List (List Int)) (y123 ++ l0_2)) else (none))
/-! spec_SteadyForm: function 81 -/
mutual
def spec_SteadyForm.j0 : Nat → Bool → Int → List (List Int) → List Int → Option (Int × (List (List Int)) × List Int × Bool)
 | 0, _, _, _, _ => none
 | k + 1, x23, x141000, x141001, x141002 => if x23 = true then (some (0, ([] : List (List Int)), ([] : List Int), false)) else ((spec_IsSteady.f k x141000 x141001 x141002).bind fun t144 => (if t144 = true then ((spec_l3Copy.f k x141000 x141001 x141002).bind fun bt145 => (some (bt145.1, bt145.2.1, bt145.2.2, true))) else (if 0 < (x141002.length : Int) then ((some (([rd x141002 0] : List Int) : List Int)).bind fun y153 => (if y153.length + x141002.length < 17592186044416 then (spec_SteadyForm.l0 k (([0] : List Int)) 1 x141000 x141001 x141002 x141000 (y153 ++ x141002)) else (none))) else (none))))
def spec_SteadyForm.l0 : Nat → List Int → Int → Int → List (List Int) → List Int → Int → List Int → Option (Int × (List (List Int)) × List Int × Bool)
 | 0, _, _, _, _, _, _, _ => none
 | k + 1, x5, x6, x141000, x141001, x141002, x160000, x160002 => if x6 < x141000 then (if 0 < (x141001.length : Int) then (if 0 ≤ x6 then (if x6 < ((rd_L1 x141001 0).length : Int) then (if x5.length < 17592186044416 then (spec_SteadyForm.l0 k (x5 ++ [wrap64 ((rd (rd_L1 x141001 0) x6) + 1)]) (wrap64 (x6 + 1)) x141000 x141001 x141002 x160000 x160002) else (none)) else (none)) else (none)) else (none)) else (if ([] : List (List Int)).length < 5864062014805 then (spec_SteadyForm.l1 k 0 x141000 x141001 x141002 x160000 (([] : List (List Int)) ++ [x5]) x160002) else (none))
def spec_SteadyForm.l1 : Nat → Int → Int → List (List Int) → List Int → Int → List (List Int) → List Int → Option (Int × (List (List Int)) × List Int × Bool)
 | 0, _, _, _, _, _, _, _ => none
 | k + 1, x7, x141000, x141001, x141002, x160000, x160001, x160002 => if x7 < (x141001.length : Int) then (spec_SteadyForm.l2 k x7 (([] : List Int)) 0 x141000 x141001 x141002 x160000 x160001 x160002) else (some (x160000, x160001, x160002, true))
def spec_SteadyForm.l2 : Nat → Int → List Int → Int → Int → List (List Int) → List Int → Int → List (List Int) → List Int → Option (Int × (List (List Int)) × List Int × Bool)
 | 0, _, _, _, _, _, _, _, _, _ => none
 | k + 1, x7, x8, x9, x141000, x141001, x141002, x160000, x160001, x160002 => if x9 < x141000 then (if 0 ≤ x7 then (if x7 < (x141001.length : Int) then (if 0 ≤ x9 then (if x9 < ((rd_L1 x141001 x7).length : Int) then (if x8.length < 17592186044416 then (spec_SteadyForm.l2 k x7 (x8 ++ [wrap64 ((rd (rd_L1 x141001 x7) x9) + 1)]) (wrap64 (x9 + 1)) x141000 x141001 x141002 x160000 x160001 x160002) else (none)) else (none)) else (none)) else (none)) else (none)) else (if x160001.length < 5864062014805 then (spec_SteadyForm.l1 k (wrap64 (x7 + 1)) x141000 x141001 x141002 x160000 (x160001 ++ [x8]) x160002) else (none))
end
def spec_SteadyForm.f (k : Nat) (a0_0 : Int) (l0_1 : List (List Int)) (l0_2 : List Int) : Option (Int × (List (List Int)) × List Int × Bool) := (spec_IsSequence.f k a0_0 l0_1 l0_2).bind fun t142 => (if t142 = true then (if (l0_1.length : Int) ≥ 16 then ((spec_IsSteady.f k a0_0 l0_1 l0_2).bind fun t143 => (spec_SteadyForm.j0 k (!t143) a0_0 l0_1 l0_2)) else (spec_SteadyForm.j0 k false a0_0 l0_1 l0_2)) else (spec_SteadyForm.j0 k true a0_0 l0_1 l0_2))
/-! spec_l3Same: function 72 -/
def spec_l3Same.l0 : Nat → List Int → List Int → Int → Option (Bool)
 | 0, _, _, _ => none
 | k + 1, x0, x1, x5 => if x5 < (x0.length : Int) then (if 0 ≤ x5 then (if x5 < (x1.length : Int) then (if (rd x0 x5) = (rd x1 x5) then (spec_l3Same.l0 k x0 x1 (wrap64 (x5 + 1))) else (some false)) else (none)) else (none)) else (some true)
def spec_l3Same.f (k : Nat) (l0 : List Int) (l1 : List Int) : Option (Bool) := if (l0.length : Int) = (l1.length : Int) then (spec_l3Same.l0 k l0 l1 0) else (some false)
/-! spec_l4Number: function 102 -/
mutual
def spec_l4Number.l0 : Nat → List (List Int) → List Int → Int → Int → Option (List Int)
 | 0, _, _, _, _ => none
 | k + 1, x0, x3, x4, x5 => if x5 < (x0.length : Int) then (spec_l4Number.l1 k x0 x3 x4 x5 (-1) 0) else (some x3)
def spec_l4Number.l1 : Nat → List (List Int) → List Int → Int → Int → Int → Int → Option (List Int)
 | 0, _, _, _, _, _, _ => none
 | k + 1, x0, x3, x4, x5, x6, x7 => if x7 < x5 then (spec_l4Number.j2 k x0 x3 x4 x5 x6 x7 (decide (x6 < 0))) else (spec_l4Number.j2 k x0 x3 x4 x5 x6 x7 false)
def spec_l4Number.j2 : Nat → List (List Int) → List Int → Int → Int → Int → Int → Bool → Option (List Int)
 | 0, _, _, _, _, _, _, _ => none
 | k + 1, x0, x3, x4, x5, x6, x7, x21 => if x21 = true then (if 0 ≤ x7 then (if x7 < (x0.length : Int) then (if 0 ≤ x5 then (if x5 < (x0.length : Int) then ((spec_l3Same.f k (rd_L1 x0 x7) (rd_L1 x0 x5)).bind fun t189 => (if t189 = true then (if x7 < (x3.length : Int) then (spec_l4Number.l1 k x0 x3 x4 x5 (rd x3 x7) (wrap64 (x7 + 1))) else (none)) else (spec_l4Number.l1 k x0 x3 x4 x5 x6 (wrap64 (x7 + 1))))) else (none)) else (none)) else (none)) else (none)) else (if x6 < 0 then (if x3.length < 17592186044416 then (spec_l4Number.l0 k x0 (x3 ++ [x4]) (wrap64 (x4 + 1)) (wrap64 (x5 + 1))) else (none)) else (if x3.length < 17592186044416 then (spec_l4Number.l0 k x0 (x3 ++ [x6]) x4 (wrap64 (x5 + 1))) else (none)))
end
def spec_l4Number.f (k : Nat) (l0 : List (List Int)) : Option (List Int) := spec_l4Number.l0 k l0 (([] : List Int)) 0 0
/-! spec_StateClasses: function 82 -/
mutual
def spec_StateClasses.l0 : Nat → List (List Int) → Int → Int → List (List Int) → List Int → Option (List Int)
 | 0, _, _, _, _, _ => none
 | k + 1, x3, x4, x198000, x198001, x198002 => if x4 < (x198002.length : Int) then (if 0 ≤ x4 then (if x3.length < 5864062014805 then (spec_StateClasses.l0 k (x3 ++ [(([rd x198002 x4] : List Int))]) (wrap64 (x4 + 1)) x198000 x198001 x198002) else (none)) else (none)) else ((spec_l4Number.f k x3).bind fun t212 => (spec_StateClasses.l1 k t212 0 x198000 x198001 x198002))
def spec_StateClasses.l1 : Nat → List Int → Int → Int → List (List Int) → List Int → Option (List Int)
 | 0, _, _, _, _, _ => none
 | k + 1, x5, x6, x198000, x198001, x198002 => if x6 < (x198001.length : Int) then (spec_StateClasses.l2 k (([] : List (List Int))) x5 x6 0 x198000 x198001 x198002) else (some x5)
def spec_StateClasses.l2 : Nat → List (List Int) → List Int → Int → Int → Int → List (List Int) → List Int → Option (List Int)
 | 0, _, _, _, _, _, _, _ => none
 | k + 1, x3, x5, x6, x7, x198000, x198001, x198002 => if x7 < (x198001.length : Int) then (if 0 ≤ x7 then (if x7 < (x5.length : Int) then (spec_StateClasses.l3 k x3 x5 x6 x7 (([rd x5 x7] : List Int)) 0 x198000 x198001 x198002) else (none)) else (none)) else ((spec_l4Number.f k x3).bind fun t218 => (spec_StateClasses.l1 k t218 (wrap64 (x6 + 1)) x198000 x198001 x198002))
def spec_StateClasses.l3 : Nat → List (List Int) → List Int → Int → Int → List Int → Int → Int → List (List Int) → List Int → Option (List Int)
 | 0, _, _, _, _, _, _, _, _, _ => none
 | k + 1, x3, x5, x6, x7, x8, x9, x198000, x198001, x198002 => if x9 < x198000 then (if 0 ≤ x7 then (if x7 < (x198001.length : Int) then (if 0 ≤ x9 then (if x9 < ((rd_L1 x198001 x7).length : Int) then (if 0 ≤ (rd (rd_L1 x198001 x7) x9) then (if (rd (rd_L1 x198001 x7) x9) < (x5.length : Int) then (if x8.length < 17592186044416 then (spec_StateClasses.l3 k x3 x5 x6 x7 (x8 ++ [rd x5 (rd (rd_L1 x198001 x7) x9)]) (wrap64 (x9 + 1)) x198000 x198001 x198002) else (none)) else (none)) else (none)) else (none)) else (none)) else (none)) else (none)) else (if x3.length < 5864062014805 then (spec_StateClasses.l2 k (x3 ++ [x8]) x5 x6 (wrap64 (x7 + 1)) x198000 x198001 x198002) else (none))
end
def spec_StateClasses.f (k : Nat) (a0_0 : Int) (l0_1 : List (List Int)) (l0_2 : List Int) : Option (List Int) := (spec_IsSequence.f k a0_0 l0_1 l0_2).bind fun t198 => (if t198 = true then (spec_StateClasses.l0 k (([] : List (List Int))) 0 a0_0 l0_1 l0_2) else (some (([] : List Int))))
/-! spec_MinimalForm: function 38 -/
mutual
def spec_MinimalForm.l0 : Nat → List Int → List Int → Int → Int → List (List Int) → List Int → Int → List (List Int) → List Int → Option (Int × (List (List Int)) × List Int × Bool)
 | 0, _, _, _, _, _, _, _, _, _ => none
 | k + 1, x6, x8, x9, x245000, x245001, x245002, x249000, x249001, x249002 => if x9 < (x8.length : Int) then (spec_MinimalForm.l1 k x6 x8 x9 (([] : List Int)) 0 x245000 x245001 x245002 x249000 x249001 x249002) else (some (x249000, x249001, x249002, true))
def spec_MinimalForm.l1 : Nat → List Int → List Int → Int → List Int → Int → Int → List (List Int) → List Int → Int → List (List Int) → List Int → Option (Int × (List (List Int)) × List Int × Bool)
 | 0, _, _, _, _, _, _, _, _, _, _, _ => none
 | k + 1, x6, x8, x9, x10, x11, x245000, x245001, x245002, x249000, x249001, x249002 => if x11 < x245000 then (if 0 ≤ x9 then (if x9 < (x8.length : Int) then (if 0 ≤ (rd x8 x9) then (if (rd x8 x9) < (x245001.length : Int) then (if 0 ≤ x11 then (if x11 < ((rd_L1 x245001 (rd x8 x9)).length : Int) then (spec_MinimalForm.l2 k x6 x8 x9 x10 x11 (rd (rd_L1 x245001 (rd x8 x9)) x11) (-1) 0 x245000 x245001 x245002 x249000 x249001 x249002) else (none)) else (none)) else (none)) else (none)) else (none)) else (none)) else (if x249001.length < 5864062014805 then (if 0 ≤ x9 then (if x9 < (x8.length : Int) then (if 0 ≤ (rd x8 x9) then (if (rd x8 x9) < (x245002.length : Int) then (if x249002.length < 17592186044416 then (spec_MinimalForm.l0 k x6 x8 (wrap64 (x9 + 1)) x245000 x245001 x245002 x249000 (x249001 ++ [x10]) (x249002 ++ [rd x245002 (rd x8 x9)])) else (none)) else (none)) else (none)) else (none)) else (none)) else (none))
def spec_MinimalForm.l2 : Nat → List Int → List Int → Int → List Int → Int → Int → Int → Int → Int → List (List Int) → List Int → Int → List (List Int) → List Int → Option (Int × (List (List Int)) × List Int × Bool)
 | 0, _, _, _, _, _, _, _, _, _, _, _, _, _, _ => none
 | k + 1, x6, x8, x9, x10, x11, x12, x13, x14, x245000, x245001, x245002, x249000, x249001, x249002 => if x14 < (x8.length : Int) then (spec_MinimalForm.j3 k x6 x8 x9 x10 x11 x12 x13 x14 (decide (x13 < 0)) x245000 x245001 x245002 x249000 x249001 x249002) else (spec_MinimalForm.j3 k x6 x8 x9 x10 x11 x12 x13 x14 false x245000 x245001 x245002 x249000 x249001 x249002)
def spec_MinimalForm.j3 : Nat → List Int → List Int → Int → List Int → Int → Int → Int → Int → Bool → Int → List (List Int) → List Int → Int → List (List Int) → List Int → Option (Int × (List (List Int)) × List Int × Bool)
 | 0, _, _, _, _, _, _, _, _, _, _, _, _, _, _, _ => none
 | k + 1, x6, x8, x9, x10, x11, x12, x13, x14, x60, x245000, x245001, x245002, x249000, x249001, x249002 => if x60 = true then (if 0 ≤ x14 then (if x14 < (x8.length : Int) then (if 0 ≤ (rd x8 x14) then (if (rd x8 x14) < (x6.length : Int) then (if 0 ≤ x12 then (if x12 < (x6.length : Int) then (if (rd x6 (rd x8 x14)) = (rd x6 x12) then (spec_MinimalForm.l2 k x6 x8 x9 x10 x11 x12 x14 (wrap64 (x14 + 1)) x245000 x245001 x245002 x249000 x249001 x249002) else (spec_MinimalForm.l2 k x6 x8 x9 x10 x11 x12 x13 (wrap64 (x14 + 1)) x245000 x245001 x245002 x249000 x249001 x249002)) else (none)) else (none)) else (none)) else (none)) else (none)) else (none)) else (if x13 < 0 then (if x8.length < 17592186044416 then (if x10.length < 17592186044416 then (spec_MinimalForm.l1 k x6 (x8 ++ [x12]) x9 (x10 ++ [(x8.length : Int)]) (wrap64 (x11 + 1)) x245000 x245001 x245002 x249000 x249001 x249002) else (none)) else (none)) else (if x10.length < 17592186044416 then (spec_MinimalForm.l1 k x6 x8 x9 (x10 ++ [x13]) (wrap64 (x11 + 1)) x245000 x245001 x245002 x249000 x249001 x249002) else (none)))
end
def spec_MinimalForm.f (k : Nat) (a0_0 : Int) (l0_1 : List (List Int)) (l0_2 : List Int) : Option (Int × (List (List Int)) × List Int × Bool) := (spec_SteadyForm.f k a0_0 l0_1 l0_2).bind fun bt236 => (if bt236.2.2.2 = true then ((spec_StateClasses.f k bt236.1 bt236.2.1 bt236.2.2.1).bind fun t245 => (spec_MinimalForm.l0 k t245 (([0] : List Int)) 0 bt236.1 bt236.2.1 bt236.2.2.1 bt236.1 ([] : List (List Int)) ([] : List Int))) else (some (0, ([] : List (List Int)), ([] : List Int), false)))
/-! impl_isBase: function 120 -/
def impl_isBase.f (a0 : Int) : Option (Bool) := if a0 ≥ 2 then (some (decide (a0 ≤ 4))) else (some false)
/-! impl_IsSequence: function 97 -/
mutual
def impl_IsSequence.j0 : Nat → Int → Bool → Int → List (List Int) → List Int → Option (Bool)
 | 0, _, _, _, _, _ => none
 | k + 1, x3, x29, x329000, x329001, x329002 => if x29 = true then (some false) else (impl_IsSequence.l0 k x3 x329001 (x329001.length : Int) 0 x329000 x329001 x329002)
def impl_IsSequence.l0 : Nat → Int → List (List Int) → Int → Int → Int → List (List Int) → List Int → Option (Bool)
 | 0, _, _, _, _, _, _, _ => none
 | k + 1, x3, x31, x32, x33, x329000, x329001, x329002 => if x33 < x32 then (if 0 ≤ x33 then (if x33 < (x31.length : Int) then (if ((rd_L1 x31 x33).length : Int) = x329000 then (if x33 < (x329002.length : Int) then (if (rd x329002 x33) < 0 then (impl_IsSequence.j2 k x3 (rd_L1 x31 x33) x31 x32 x33 true x329000 x329001 x329002) else (impl_IsSequence.j2 k x3 (rd_L1 x31 x33) x31 x32 x33 (decide ((rd x329002 x33) > 3)) x329000 x329001 x329002)) else (none)) else (impl_IsSequence.j2 k x3 (rd_L1 x31 x33) x31 x32 x33 true x329000 x329001 x329002)) else (none)) else (none)) else (some true)
def impl_IsSequence.j2 : Nat → Int → List Int → List (List Int) → Int → Int → Bool → Int → List (List Int) → List Int → Option (Bool)
 | 0, _, _, _, _, _, _, _, _, _ => none
 | k + 1, x3, x5, x31, x32, x33, x58, x329000, x329001, x329002 => if x58 = true then (some false) else (impl_IsSequence.l1 k x3 x31 x32 x33 x5 (x5.length : Int) 0 x329000 x329001 x329002)
def impl_IsSequence.l1 : Nat → Int → List (List Int) → Int → Int → List Int → Int → Int → Int → List (List Int) → List Int → Option (Bool)
 | 0, _, _, _, _, _, _, _, _, _, _ => none
 | k + 1, x3, x31, x32, x33, x59, x60, x61, x329000, x329001, x329002 => if x61 < x60 then (if 0 ≤ x61 then (if x61 < (x59.length : Int) then (if (rd x59 x61) < 0 then (some false) else (if (rd x59 x61) ≥ x3 then (some false) else (impl_IsSequence.l1 k x3 x31 x32 x33 x59 x60 (wrap64 (x61 + 1)) x329000 x329001 x329002))) else (none)) else (none)) else (impl_IsSequence.l0 k x3 x31 x32 (wrap64 (x33 + 1)) x329000 x329001 x329002)
end
def impl_IsSequence.f (k : Nat) (a0_0 : Int) (l0_1 : List (List Int)) (l0_2 : List Int) : Option (Bool) := (impl_isBase.f a0_0).bind fun t329 => (if t329 = true then (if (l0_1.length : Int) < 1 then (impl_IsSequence.j0 k (l0_1.length : Int) true a0_0 l0_1 l0_2) else (if (l0_1.length : Int) > 16 then (impl_IsSequence.j0 k (l0_1.length : Int) true a0_0 l0_1 l0_2) else (impl_IsSequence.j0 k (l0_1.length : Int) ((l0_2.length : Int) != (l0_1.length : Int)) a0_0 l0_1 l0_2))) else (impl_IsSequence.j0 k (l0_1.length : Int) true a0_0 l0_1 l0_2))
/-! impl_IsSteady: function 109 -/
def impl_IsSteady.f (k : Nat) (a0_0 : Int) (l0_1 : List (List Int)) (l0_2 : List Int) : Option (Bool) := (impl_IsSequence.f k a0_0 l0_1 l0_2).bind fun t335 => (if t335 = true then (if 0 < (l0_1.length : Int) then (if 0 < ((rd_L1 l0_1 0).length : Int) then (some ((rd (rd_L1 l0_1 0) 0) == 0)) else (none)) else (none)) else (some false))
/-! impl_Sequence_own: function 110 -/
def impl_Sequence_own.l0 : Nat → List (List Int) → Int → Int → Int → List (List Int) → List Int → Option (Int × (List (List Int)) × List Int)
 | 0, _, _, _, _, _, _ => none
 | k + 1, x13, x14, x15, x350000, x350001, x350002 => if x15 < x14 then (if 0 ≤ x15 then (if x15 < (x13.length : Int) then ((slices_Clone_int_int.f (rd_L1 x13 x15)).bind fun t351 => (if x350001.length < 5864062014805 then (impl_Sequence_own.l0 k x13 x14 (wrap64 (x15 + 1)) x350000 (x350001 ++ [t351]) x350002) else (none))) else (none)) else (none)) else (some (x350000, x350001, x350002))
def impl_Sequence_own.f (k : Nat) (a0_0 : Int) (l0_1 : List (List Int)) (l0_2 : List Int) : Option (Int × (List (List Int)) × List Int) := (slices_Clone_int_int.f l0_2).bind fun t346 => (impl_Sequence_own.l0 k l0_1 (l0_1.length : Int) 0 a0_0 ([] : List (List Int)) t346)
/-! impl_isSmallBase: function 43 -/
def impl_isSmallBase.f (a0 : Int) : Option (Bool) := if a0 = 2 then (some true) else (some (a0 == 3))
/-! impl_isTerm: function 44 -/
def impl_isTerm.f (a0 : Int) : Option (Bool) := if a0 ≥ 0 then (some (decide (a0 ≤ 3))) else (some false)
/-! spec_l11Power: function 59 -/
def spec_l11Power.l0 : Nat → Int → Int → Int → Int → Option (Int)
 | 0, _, _, _, _ => none
 | k + 1, x0, x1, x5, x6 => if x6 < x1 then (spec_l11Power.l0 k x0 x1 (wrap64 (x5 * x0)) (wrap64 (x6 + 1))) else (some x5)
def spec_l11Power.f (k : Nat) (a0 : Int) (a1 : Int) : Option (Int) := spec_l11Power.l0 k a0 a1 1 0
/-! spec_l13Letters: function 71 -/
def spec_l13Letters.f (k : Nat) (a0 : Int) (a1 : Int) : Option (Int) := (spec_l11Power.f k a0 a1).bind fun t477 => (some t477)
/-! spec_IsRelation: function 67 -/
mutual
def spec_IsRelation.j0 : Nat → Bool → Int → Int → List (List Int) → List Bool → Option (Bool)
 | 0, _, _, _, _, _ => none
 | k + 1, x30, x479000, x479001, x479002, x479003 => if x30 = true then (some false) else (spec_IsRelation.l0 k 0 x479000 x479001 x479002 x479003)
def spec_IsRelation.l0 : Nat → Int → Int → Int → List (List Int) → List Bool → Option (Bool)
 | 0, _, _, _, _, _ => none
 | k + 1, x3, x479000, x479001, x479002, x479003 => if x3 < (x479002.length : Int) then (if 0 ≤ x3 then ((spec_l13Letters.f k x479000 x479001).bind fun t485 => (if ((rd_L1 x479002 x3).length : Int) = t485 then (spec_IsRelation.l1 k x3 0 x479000 x479001 x479002 x479003) else (some false))) else (none)) else (if 0 < (x479002.length : Int) then (if 0 < ((rd_L1 x479002 0).length : Int) then (some ((rd (rd_L1 x479002 0) 0) == 0)) else (none)) else (none))
def spec_IsRelation.l1 : Nat → Int → Int → Int → Int → List (List Int) → List Bool → Option (Bool)
 | 0, _, _, _, _, _, _ => none
 | k + 1, x3, x4, x479000, x479001, x479002, x479003 => if 0 ≤ x3 then (if x3 < (x479002.length : Int) then (if x4 < ((rd_L1 x479002 x3).length : Int) then (if 0 ≤ x4 then (if (rd (rd_L1 x479002 x3) x4) < 0 then (some false) else (if (rd (rd_L1 x479002 x3) x4) ≥ (x479002.length : Int) then (some false) else (spec_IsRelation.l1 k x3 (wrap64 (x4 + 1)) x479000 x479001 x479002 x479003))) else (none)) else (spec_IsRelation.l0 k (wrap64 (x3 + 1)) x479000 x479001 x479002 x479003)) else (none)) else (none)
end
def spec_IsRelation.f (k : Nat) (a0_0 : Int) (a0_1 : Int) (l0_2 : List (List Int)) (l0_3 : List Bool) : Option (Bool) := (spec_l1In.f a0_0 2 3).bind fun t479 => (if t479 = true then ((spec_l1In.f a0_1 0 3).bind fun t480 => (if t480 = true then ((spec_l1In.f (l0_2.length : Int) 1 48).bind fun t481 => (if t481 = true then (spec_IsRelation.j0 k ((l0_3.length : Int) != (l0_2.length : Int)) a0_0 a0_1 l0_2 l0_3) else (spec_IsRelation.j0 k true a0_0 a0_1 l0_2 l0_3))) else (spec_IsRelation.j0 k true a0_0 a0_1 l0_2 l0_3))) else (spec_IsRelation.j0 k true a0_0 a0_1 l0_2 l0_3))
/-! spec_l13Reduce: function 73 -/
mutual
def spec_l13Reduce.l0 : Nat → Int → Int → List (List Int) → List Bool → List (List Int) → Int → Option (Int × Int × (List (List Int)) × List Bool)
 | 0, _, _, _, _, _, _ => none
 | k + 1, x0, x1, x2, x3, x9, x10 => if x10 < (x3.length : Int) then (if 0 ≤ x10 then (if rdOf false x3 x10 = true then (if x9.length < 5864062014805 then (spec_l13Reduce.l0 k x0 x1 x2 x3 (x9 ++ [(([1] : List Int))]) (wrap64 (x10 + 1))) else (none)) else (if x9.length < 5864062014805 then (spec_l13Reduce.l0 k x0 x1 x2 x3 (x9 ++ [(([0] : List Int))]) (wrap64 (x10 + 1))) else (none))) else (none)) else ((spec_l4Number.f k x9).bind fun t508 => (spec_l13Reduce.l1 k x0 x1 x2 x3 t508 0))
def spec_l13Reduce.l1 : Nat → Int → Int → List (List Int) → List Bool → List Int → Int → Option (Int × Int × (List (List Int)) × List Bool)
 | 0, _, _, _, _, _, _ => none
 | k + 1, x0, x1, x2, x3, x11, x12 => if x12 < (x2.length : Int) then (spec_l13Reduce.l2 k x0 x1 x2 x3 (([] : List (List Int))) x11 x12 0) else (spec_l13Reduce.l4 k x2 x3 x11 (([0] : List Int)) 0 x0 x1 ([] : List (List Int)) ([] : List Bool))
def spec_l13Reduce.l2 : Nat → Int → Int → List (List Int) → List Bool → List (List Int) → List Int → Int → Int → Option (Int × Int × (List (List Int)) × List Bool)
 | 0, _, _, _, _, _, _, _, _ => none
 | k + 1, x0, x1, x2, x3, x9, x11, x12, x13 => if x13 < (x2.length : Int) then (if 0 ≤ x13 then (if x13 < (x11.length : Int) then (spec_l13Reduce.l3 k x0 x1 x2 x3 x9 x11 x12 x13 (([rd x11 x13] : List Int)) 0) else (none)) else (none)) else ((spec_l4Number.f k x9).bind fun t528 => ((spec_l3Same.f k t528 x11).bind fun t531 => (if t531 = true then (spec_l13Reduce.l1 k x0 x1 x2 x3 t528 (wrap64 ((x2.length : Int) + 1))) else (spec_l13Reduce.l1 k x0 x1 x2 x3 t528 (wrap64 (x12 + 1))))))
def spec_l13Reduce.l3 : Nat → Int → Int → List (List Int) → List Bool → List (List Int) → List Int → Int → Int → List Int → Int → Option (Int × Int × (List (List Int)) × List Bool)
 | 0, _, _, _, _, _, _, _, _, _, _ => none
 | k + 1, x0, x1, x2, x3, x9, x11, x12, x13, x14, x15 => if 0 ≤ x13 then (if x13 < (x2.length : Int) then (if x15 < ((rd_L1 x2 x13).length : Int) then (if 0 ≤ x15 then (if 0 ≤ (rd (rd_L1 x2 x13) x15) then (if (rd (rd_L1 x2 x13) x15) < (x11.length : Int) then (if x14.length < 17592186044416 then (spec_l13Reduce.l3 k x0 x1 x2 x3 x9 x11 x12 x13 (x14 ++ [rd x11 (rd (rd_L1 x2 x13) x15)]) (wrap64 (x15 + 1))) else (none)) else (none)) else (none)) else (none)) else (if x9.length < 5864062014805 then (spec_l13Reduce.l2 k x0 x1 x2 x3 (x9 ++ [x14]) x11 x12 (wrap64 (x13 + 1))) else (none))) else (none)) else (none)
def spec_l13Reduce.l4 : Nat → List (List Int) → List Bool → List Int → List Int → Int → Int → Int → List (List Int) → List Bool → Option (Int × Int × (List (List Int)) × List Bool)
 | 0, _, _, _, _, _, _, _, _, _ => none
 | k + 1, x2, x3, x11, x18, x19, x533000, x533001, x533002, x533003 => if x19 < (x18.length : Int) then (spec_l13Reduce.l5 k x2 x3 x11 x18 x19 (([] : List Int)) 0 x533000 x533001 x533002 x533003) else (some (x533000, x533001, x533002, x533003))
def spec_l13Reduce.l5 : Nat → List (List Int) → List Bool → List Int → List Int → Int → List Int → Int → Int → Int → List (List Int) → List Bool → Option (Int × Int × (List (List Int)) × List Bool)
 | 0, _, _, _, _, _, _, _, _, _, _, _ => none
 | k + 1, x2, x3, x11, x18, x19, x20, x21, x533000, x533001, x533002, x533003 => if 0 ≤ x19 then (if x19 < (x18.length : Int) then (if 0 ≤ (rd x18 x19) then (if (rd x18 x19) < (x2.length : Int) then (if x21 < ((rd_L1 x2 (rd x18 x19)).length : Int) then (if 0 ≤ x21 then (spec_l13Reduce.l6 k x2 x3 x11 x18 x19 x20 x21 (rd (rd_L1 x2 (rd x18 x19)) x21) (-1) 0 x533000 x533001 x533002 x533003) else (none)) else (if x533002.length < 5864062014805 then (if (rd x18 x19) < (x3.length : Int) then (if x533003.length < 140737488355328 then (spec_l13Reduce.l4 k x2 x3 x11 x18 (wrap64 (x19 + 1)) x533000 x533001 (x533002 ++ [x20]) (x533003 ++ [rdOf false x3 (rd x18 x19)])) else (none)) else (none)) else (none))) else (none)) else (none)) else (none)) else (none)
def spec_l13Reduce.l6 : Nat → List (List Int) → List Bool → List Int → List Int → Int → List Int → Int → Int → Int → Int → Int → Int → List (List Int) → List Bool → Option (Int × Int × (List (List Int)) × List Bool)
 | 0, _, _, _, _, _, _, _, _, _, _, _, _, _, _ => none
 | k + 1, x2, x3, x11, x18, x19, x20, x21, x22, x23, x24, x533000, x533001, x533002, x533003 => if x24 < (x18.length : Int) then (spec_l13Reduce.j7 k x2 x3 x11 x18 x19 x20 x21 x22 x23 x24 (decide (x23 < 0)) x533000 x533001 x533002 x533003) else (spec_l13Reduce.j7 k x2 x3 x11 x18 x19 x20 x21 x22 x23 x24 false x533000 x533001 x533002 x533003)
def spec_l13Reduce.j7 : Nat → List (List Int) → List Bool → List Int → List Int → Int → List Int → Int → Int → Int → Int → Bool → Int → Int → List (List Int) → List Bool → Option (Int × Int × (List (List Int)) × List Bool)
 | 0, _, _, _, _, _, _, _, _, _, _, _, _, _, _, _ => none
 | k + 1, x2, x3, x11, x18, x19, x20, x21, x22, x23, x24, x138, x533000, x533001, x533002, x533003 => if x138 = true then (if 0 ≤ x24 then (if x24 < (x18.length : Int) then (if 0 ≤ (rd x18 x24) then (if (rd x18 x24) < (x11.length : Int) then (if 0 ≤ x22 then (if x22 < (x11.length : Int) then (if (rd x11 (rd x18 x24)) = (rd x11 x22) then (spec_l13Reduce.l6 k x2 x3 x11 x18 x19 x20 x21 x22 x24 (wrap64 (x24 + 1)) x533000 x533001 x533002 x533003) else (spec_l13Reduce.l6 k x2 x3 x11 x18 x19 x20 x21 x22 x23 (wrap64 (x24 + 1)) x533000 x533001 x533002 x533003)) else (none)) else (none)) else (none)) else (none)) else (none)) else (none)) else (if x23 < 0 then (if x18.length < 17592186044416 then (if x20.length < 17592186044416 then (spec_l13Reduce.l5 k x2 x3 x11 (x18 ++ [x22]) x19 (x20 ++ [(x18.length : Int)]) (wrap64 (x21 + 1)) x533000 x533001 x533002 x533003) else (none)) else (none)) else (if x20.length < 17592186044416 then (spec_l13Reduce.l5 k x2 x3 x11 x18 x19 (x20 ++ [x23]) (wrap64 (x21 + 1)) x533000 x533001 x533002 x533003) else (none)))
end
def spec_l13Reduce.f (k : Nat) (a0 : Int) (a1 : Int) (l2 : List (List Int)) (l3 : List Bool) : Option (Int × Int × (List (List Int)) × List Bool) := spec_l13Reduce.l0 k a0 a1 l2 l3 (([] : List (List Int))) 0
/-! impl_power: function 76 -/
def impl_power.l0 : Nat → Int → Int → Int → Int → Option (Int)
 | 0, _, _, _, _ => none
 | k + 1, x0, x5, x6, x7 => if x7 < x6 then (impl_power.l0 k x0 (wrap64 (x5 * x0)) x6 (wrap64 (x7 + 1))) else (some x5)
def impl_power.f (k : Nat) (a0 : Int) (a1 : Int) : Option (Int) := impl_power.l0 k a0 1 a1 0
/-! impl_IsRelation: function 74 -/
mutual
def impl_IsRelation.j0 : Nat → Int → Bool → Int → Int → List (List Int) → List Bool → Option (Bool)
 | 0, _, _, _, _, _, _ => none
 | k + 1, x3, x39, x651000, x651001, x651002, x651003 => if x39 = true then (some false) else (impl_IsRelation.l0 k x3 x651002 (x651002.length : Int) 0 x651000 x651001 x651002 x651003)
def impl_IsRelation.l0 : Nat → Int → List (List Int) → Int → Int → Int → Int → List (List Int) → List Bool → Option (Bool)
 | 0, _, _, _, _, _, _, _, _ => none
 | k + 1, x3, x41, x42, x43, x651000, x651001, x651002, x651003 => if x43 < x42 then (if 0 ≤ x43 then (if x43 < (x41.length : Int) then ((impl_power.f k x651000 x651001).bind fun t655 => (if ((rd_L1 x41 x43).length : Int) = t655 then (impl_IsRelation.l1 k x3 x41 x42 x43 (rd_L1 x41 x43) ((rd_L1 x41 x43).length : Int) 0 x651000 x651001 x651002 x651003) else (some false))) else (none)) else (none)) else (if 0 < (x651002.length : Int) then (if 0 < ((rd_L1 x651002 0).length : Int) then (some ((rd (rd_L1 x651002 0) 0) == 0)) else (none)) else (none))
def impl_IsRelation.l1 : Nat → Int → List (List Int) → Int → Int → List Int → Int → Int → Int → Int → List (List Int) → List Bool → Option (Bool)
 | 0, _, _, _, _, _, _, _, _, _, _, _ => none
 | k + 1, x3, x41, x42, x43, x55, x56, x57, x651000, x651001, x651002, x651003 => if x57 < x56 then (if 0 ≤ x57 then (if x57 < (x55.length : Int) then (if (rd x55 x57) < 0 then (some false) else (if (rd x55 x57) ≥ x3 then (some false) else (impl_IsRelation.l1 k x3 x41 x42 x43 x55 x56 (wrap64 (x57 + 1)) x651000 x651001 x651002 x651003))) else (none)) else (none)) else (impl_IsRelation.l0 k x3 x41 x42 (wrap64 (x43 + 1)) x651000 x651001 x651002 x651003)
end
def impl_IsRelation.f (k : Nat) (a0_0 : Int) (a0_1 : Int) (l0_2 : List (List Int)) (l0_3 : List Bool) : Option (Bool) := (impl_isSmallBase.f a0_0).bind fun t651 => (if t651 = true then (if a0_1 < 0 then (impl_IsRelation.j0 k (l0_2.length : Int) true a0_0 a0_1 l0_2 l0_3) else (if a0_1 > 3 then (impl_IsRelation.j0 k (l0_2.length : Int) true a0_0 a0_1 l0_2 l0_3) else (if (l0_2.length : Int) < 1 then (impl_IsRelation.j0 k (l0_2.length : Int) true a0_0 a0_1 l0_2 l0_3) else (if (l0_2.length : Int) > 48 then (impl_IsRelation.j0 k (l0_2.length : Int) true a0_0 a0_1 l0_2 l0_3) else (impl_IsRelation.j0 k (l0_2.length : Int) ((l0_3.length : Int) != (l0_2.length : Int)) a0_0 a0_1 l0_2 l0_3))))) else (impl_IsRelation.j0 k (l0_2.length : Int) true a0_0 a0_1 l0_2 l0_3))
/-! impl_oneIf: function 64 -/
def impl_oneIf.f (a0 : Bool) : Option (Int) := if a0 = true then (some 1) else (some 0)
/-! impl_Relation_reduced: function 91 -/
mutual
def impl_Relation_reduced.l0 : Nat → List Int → List Bool → Int → Int → Int → Int → List (List Int) → List Bool → Option (Int × Int × (List (List Int)) × List Bool)
 | 0, _, _, _, _, _, _, _, _ => none
 | k + 1, x3, x13, x14, x15, x658000, x658001, x658002, x658003 => if x15 < x14 then (if 0 ≤ x15 then (if x15 < (x13.length : Int) then ((impl_oneIf.f (rdOf false x13 x15)).bind fun t663 => (if x3.length < 17592186044416 then (impl_Relation_reduced.l0 k (x3 ++ [t663]) x13 x14 (wrap64 (x15 + 1)) x658000 x658001 x658002 x658003) else (none))) else (none)) else (none)) else ((impl_minimal.f k x658002 x3).bind fun bt667 => (impl_Relation_reduced.l1 k bt667.2 (bt667.2.length : Int) 0 x658000 x658001 bt667.1 ([] : List Bool)))
def impl_Relation_reduced.l1 : Nat → List Int → Int → Int → Int → Int → List (List Int) → List Bool → Option (Int × Int × (List (List Int)) × List Bool)
 | 0, _, _, _, _, _, _, _ => none
 | k + 1, x38, x39, x40, x674000, x674001, x674002, x674003 => if x40 < x39 then (if 0 ≤ x40 then (if x40 < (x38.length : Int) then (if x674003.length < 140737488355328 then (impl_Relation_reduced.l1 k x38 x39 (wrap64 (x40 + 1)) x674000 x674001 x674002 (x674003 ++ [((rd x38 x40) == 1)])) else (none)) else (none)) else (none)) else (some (x674000, x674001, x674002, x674003))
end
def impl_Relation_reduced.f (k : Nat) (a0_0 : Int) (a0_1 : Int) (l0_2 : List (List Int)) (l0_3 : List Bool) : Option (Int × Int × (List (List Int)) × List Bool) := impl_Relation_reduced.l0 k (([] : List Int)) l0_3 (l0_3.length : Int) 0 a0_0 a0_1 l0_2 l0_3
/-! impl_Relation_limited: function 78 -/
def impl_Relation_limited.f (k : Nat) (a0_0 : Int) (a0_1 : Int) (l0_2 : List (List Int)) (l0_3 : List Bool) : Option (Int × Int × (List (List Int)) × List Bool × Bool) := (impl_Relation_reduced.f k a0_0 a0_1 l0_2 l0_3).bind fun bt680 => (if (bt680.2.2.1.length : Int) > 48 then (some (0, 0, ([] : List (List Int)), ([] : List Bool), false)) else (some (bt680.1, bt680.2.1, bt680.2.2.1, bt680.2.2.2, true)))
/-! spec_ReducedRelation: function 88 -/
def spec_ReducedRelation.f (k : Nat) (a0_0 : Int) (a0_1 : Int) (l0_2 : List (List Int)) (l0_3 : List Bool) : Option (Int × Int × (List (List Int)) × List Bool × Bool) := (spec_IsRelation.f k a0_0 a0_1 l0_2 l0_3).bind fun t745 => (if t745 = true then ((spec_l13Reduce.f k a0_0 a0_1 l0_2 l0_3).bind fun bt746 => (some (bt746.1, bt746.2.1, bt746.2.2.1, bt746.2.2.2, true))) else (some (0, 0, ([] : List (List Int)), ([] : List Bool), false)))
/-! spec_SameRelation: function 89 -/
mutual
def spec_SameRelation.j0 : Nat → Bool → Int → Int → List (List Int) → List Bool → Int → Int → List (List Int) → List Bool → Option (Bool)
 | 0, _, _, _, _, _, _, _, _, _ => none
 | k + 1, x36, x755000, x755001, x755002, x755003, x756000, x756001, x756002, x756003 => if x36 = true then (some false) else (spec_SameRelation.l0 k 0 x755000 x755001 x755002 x755003 x756000 x756001 x756002 x756003)
def spec_SameRelation.l0 : Nat → Int → Int → Int → List (List Int) → List Bool → Int → Int → List (List Int) → List Bool → Option (Bool)
 | 0, _, _, _, _, _, _, _, _, _ => none
 | k + 1, x5, x755000, x755001, x755002, x755003, x756000, x756001, x756002, x756003 => if x5 < (x755002.length : Int) then (if 0 ≤ x5 then (if x5 < (x756002.length : Int) then ((spec_l3Same.f k (rd_L1 x755002 x5) (rd_L1 x756002 x5)).bind fun t758 => (if t758 = true then (spec_SameRelation.l0 k (wrap64 (x5 + 1)) x755000 x755001 x755002 x755003 x756000 x756001 x756002 x756003) else (some false))) else (none)) else (none)) else (spec_SameRelation.l1 k 0 x755000 x755001 x755002 x755003 x756000 x756001 x756002 x756003)
def spec_SameRelation.l1 : Nat → Int → Int → Int → List (List Int) → List Bool → Int → Int → List (List Int) → List Bool → Option (Bool)
 | 0, _, _, _, _, _, _, _, _, _ => none
 | k + 1, x6, x755000, x755001, x755002, x755003, x756000, x756001, x756002, x756003 => if x6 < (x755003.length : Int) then (if 0 ≤ x6 then (if x6 < (x756003.length : Int) then (if ((rdOf false x755003 x6) != (rdOf false x756003 x6)) = true then (some false) else (spec_SameRelation.l1 k (wrap64 (x6 + 1)) x755000 x755001 x755002 x755003 x756000 x756001 x756002 x756003)) else (none)) else (none)) else (some true)
end
def spec_SameRelation.f (k : Nat) (a0_0 : Int) (a0_1 : Int) (l0_2 : List (List Int)) (l0_3 : List Bool) (a1_0 : Int) (a1_1 : Int) (l1_2 : List (List Int)) (l1_3 : List Bool) : Option (Bool) := if a0_0 = a1_0 then (if a0_1 = a1_1 then (if (l0_2.length : Int) = (l1_2.length : Int) then (spec_SameRelation.j0 k ((l0_3.length : Int) != (l1_3.length : Int)) a0_0 a0_1 l0_2 l0_3 a1_0 a1_1 l1_2 l1_3) else (spec_SameRelation.j0 k true a0_0 a0_1 l0_2 l0_3 a1_0 a1_1 l1_2 l1_3)) else (spec_SameRelation.j0 k true a0_0 a0_1 l0_2 l0_3 a1_0 a1_1 l1_2 l1_3)) else (spec_SameRelation.j0 k true a0_0 a0_1 l0_2 l0_3 a1_0 a1_1 l1_2 l1_3)
/-! spec_AreSameSets: function 57 -/
def spec_AreSameSets.f (k : Nat) (a0_0 : Int) (a0_1 : Int) (l0_2 : List (List Int)) (l0_3 : List Bool) (a1_0 : Int) (a1_1 : Int) (l1_2 : List (List Int)) (l1_3 : List Bool) : Option (Bool) := (spec_ReducedRelation.f k a0_0 a0_1 l0_2 l0_3).bind fun bt763 => ((spec_ReducedRelation.f k a1_0 a1_1 l1_2 l1_3).bind fun bt773 => (if bt763.2.2.2.2 = true then (if bt773.2.2.2.2 = true then ((spec_SameRelation.f k bt763.1 bt763.2.1 bt763.2.2.1 bt763.2.2.2.1 bt773.1 bt773.2.1 bt773.2.2.1 bt773.2.2.2.1).bind fun t783 => (some t783)) else (some false)) else (some false)))
/-! slices_Equal_int_int: function 114 -/
def slices_Equal_int_int.l0 : Nat → List Int → List Int → Int → Int → Option (Bool)
 | 0, _, _, _, _ => none
 | k + 1, x0, x1, x12, x13 => if x13 < x12 then (if 0 ≤ x13 then (if x13 < (x0.length : Int) then (if x13 < (x1.length : Int) then (if (rd x0 x13) = (rd x1 x13) then (slices_Equal_int_int.l0 k x0 x1 x12 (wrap64 (x13 + 1))) else (some false)) else (none)) else (none)) else (none)) else (some true)
def slices_Equal_int_int.f (k : Nat) (l0 : List Int) (l1 : List Int) : Option (Bool) := if (l0.length : Int) = (l1.length : Int) then (slices_Equal_int_int.l0 k l0 l1 (l0.length : Int) 0) else (some false)
/-! slices_EqualFunc_int_int_int_int: function 113 -/
def slices_EqualFunc_int_int_int_int.l0 : Nat → List (List Int) → List (List Int) → Int → Int → Option (Bool)
 | 0, _, _, _, _ => none
 | k + 1, x1, x15, x16, x17 => if x17 < x16 then (if 0 ≤ x17 then (if x17 < (x15.length : Int) then (if x17 < (x1.length : Int) then ((slices_Equal_int_int.f k (rd_L1 x15 x17) (rd_L1 x1 x17)).bind fun t790 => (if t790 = true then (slices_EqualFunc_int_int_int_int.l0 k x1 x15 x16 (wrap64 (x17 + 1))) else (some false))) else (none)) else (none)) else (none)) else (some true)
def slices_EqualFunc_int_int_int_int.f (k : Nat) (l0 : List (List Int)) (l1 : List (List Int)) : Option (Bool) := if (l0.length : Int) = (l1.length : Int) then (slices_EqualFunc_int_int_int_int.l0 k l1 l0 (l0.length : Int) 0) else (some false)
/-! slices_Equal_bool_bool: function 115 -/
def slices_Equal_bool_bool.l0 : Nat → List Bool → List Bool → Int → Int → Option (Bool)
 | 0, _, _, _, _ => none
 | k + 1, x0, x1, x12, x13 => if x13 < x12 then (if 0 ≤ x13 then (if x13 < (x0.length : Int) then (if x13 < (x1.length : Int) then (if ((rdOf false x0 x13) != (rdOf false x1 x13)) = true then (some false) else (slices_Equal_bool_bool.l0 k x0 x1 x12 (wrap64 (x13 + 1)))) else (none)) else (none)) else (none)) else (some true)
def slices_Equal_bool_bool.f (k : Nat) (l0 : List Bool) (l1 : List Bool) : Option (Bool) := if (l0.length : Int) = (l1.length : Int) then (slices_Equal_bool_bool.l0 k l0 l1 (l0.length : Int) 0) else (some false)
/-! impl_SameRelation: function 90 -/
def impl_SameRelation.f (k : Nat) (a0_0 : Int) (a0_1 : Int) (l0_2 : List (List Int)) (l0_3 : List Bool) (a1_0 : Int) (a1_1 : Int) (l1_2 : List (List Int)) (l1_3 : List Bool) : Option (Bool) := if a0_0 = a1_0 then (if a0_1 = a1_1 then ((slices_EqualFunc_int_int_int_int.f k l0_2 l1_2).bind fun t795 => (if t795 = true then ((slices_Equal_bool_bool.f k l0_3 l1_3).bind fun t796 => (some t796)) else (some false))) else (some false)) else (some false)
/-! impl_AreSameSets: function 58 -/
def impl_AreSameSets.f (k : Nat) (a0_0 : Int) (a0_1 : Int) (l0_2 : List (List Int)) (l0_3 : List Bool) (a1_0 : Int) (a1_1 : Int) (l1_2 : List (List Int)) (l1_3 : List Bool) : Option (Bool) := (impl_IsRelation.f k a0_0 a0_1 l0_2 l0_3).bind fun t799 => (if t799 = true then ((impl_IsRelation.f k a1_0 a1_1 l1_2 l1_3).bind fun t800 => (if t800 = true then ((impl_Relation_reduced.f k a0_0 a0_1 l0_2 l0_3).bind fun bt801 => ((impl_Relation_reduced.f k a1_0 a1_1 l1_2 l1_3).bind fun bt809 => ((impl_SameRelation.f k bt801.1 bt801.2.1 bt801.2.2.1 bt801.2.2.2 bt809.1 bt809.2.1 bt809.2.2.1 bt809.2.2.2).bind fun t817 => (some t817)))) else (some false))) else (some false))
/-! spec_l16Node: function 116 -/
mutual
def spec_l16Node.j0 : Nat → Int → Int → Int → Bool → Int → Int → Int → Int → Option (Bool)
 | 0, _, _, _, _, _, _, _, _ => none
 | k + 1, x1, x5, x7, x8, x841000, x841001, x841002, x841003 => if x8 = true then ((spec_l1In.f x841001 0 x5).bind fun t841 => (if t841 = true then ((spec_l1In.f x841002 0 x5).bind fun t842 => (if t842 = true then (some (x841003 == 0)) else (some false))) else (some false))) else (if x7 = 3 then ((spec_l1In.f x841001 0 x5).bind fun t843 => (if t843 = true then ((spec_l1In.f x841002 0 x5).bind fun t844 => (if t844 = true then ((spec_l1In.f x841003 0 x5).bind fun t845 => (some t845)) else (some false))) else (some false))) else (if x7 = 4 then ((spec_l1In.f x841001 0 x5).bind fun t846 => (if t846 = true then ((spec_l1In.f x841002 0 255).bind fun t847 => (if t847 = true then (some (x841003 == 0)) else (some false))) else (some false))) else (if x7 = 5 then ((spec_l1In.f x841001 0 x5).bind fun t848 => (if t848 = true then ((spec_l1In.f x841002 0 3).bind fun t849 => (if t849 = true then (some (x841003 == 0)) else (some false))) else (some false))) else (if x7 = 6 then (if x841001 ≥ 0 then (if x841001 < x1 then (if x841002 = 0 then (some (x841003 == 0)) else (some false)) else (some false)) else (some false)) else (if x7 = 7 then (spec_l16Node.j1 k x1 x5 x7 (x7 == 7) x841000 x841001 x841002 x841003) else (spec_l16Node.j1 k x1 x5 x7 (x7 == 8) x841000 x841001 x841002 x841003))))))
def spec_l16Node.j1 : Nat → Int → Int → Int → Bool → Int → Int → Int → Int → Option (Bool)
 | 0, _, _, _, _, _, _, _, _ => none
 | k + 1, x1, x5, x7, x97, x841000, x841001, x841002, x841003 => if x97 = true then (if x841001 ≥ 0 then (if x841001 < x1 then (if x841002 ≥ 0 then (if x841002 < x1 then (some (x841003 == 0)) else (some false)) else (some false)) else (some false)) else (some false)) else (if x7 = 9 then ((spec_l1In.f x841001 0 x5).bind fun t850 => (if t850 = true then (if x841002 ≥ 0 then (if x841002 < x1 then (some (x841003 == 0)) else (some false)) else (some false)) else (some false))) else (if x7 = 10 then ((spec_l1In.f x841001 0 x5).bind fun t851 => (if t851 = true then (if x841002 ≥ 0 then (if x841002 < x1 then (some (x841003 == 0)) else (some false)) else (some false)) else (some false))) else (some false)))
end
def spec_l16Node.f (k : Nat) (a0_0 : Int) (a0_1 : Int) (a0_2 : Int) (a0_3 : Int) (a1 : Int) : Option (Bool) := if a0_0 = 1 then (spec_l16Node.j0 k a1 2 a0_0 (a0_0 == 1) a0_0 a0_1 a0_2 a0_3) else (spec_l16Node.j0 k a1 2 a0_0 (a0_0 == 2) a0_0 a0_1 a0_2 a0_3)
/-! spec_l16Kids: function 117 -/
def spec_l16Kids.j0 : Nat → Int → Bool → Int → Int → Int → Int → Option (List Int)
 | 0, _, _, _, _, _, _ => none
 | k + 1, x4, x10, x853000, x853001, x853002, x853003 => if x10 = true then (some (([x853001, x853002] : List Int))) else (if x4 = 9 then (some (([x853002] : List Int))) else (if x4 = 10 then (some (([x853002] : List Int))) else (some (([] : List Int)))))
def spec_l16Kids.f (k : Nat) (a0_0 : Int) (a0_1 : Int) (a0_2 : Int) (a0_3 : Int) : Option (List Int) := if a0_0 = 6 then (some (([a0_1] : List Int))) else (if a0_0 = 7 then (spec_l16Kids.j0 k a0_0 (a0_0 == 7) a0_0 a0_1 a0_2 a0_3) else (spec_l16Kids.j0 k a0_0 (a0_0 == 8) a0_0 a0_1 a0_2 a0_3))
/-! spec_IsFormula: function 93 -/
mutual
def spec_IsFormula.l0 : Nat → List (S71) → List Int → Int → Option (Bool)
 | 0, _, _, _ => none
 | k + 1, x0, x3, x4 => if x4 < (x0.length : Int) then (if 0 ≤ x4 then ((spec_l16Node.f k ((rd_T71 x0 x4).f0) ((rd_T71 x0 x4).f1) ((rd_T71 x0 x4).f2) ((rd_T71 x0 x4).f3) x4).bind fun t873 => (if t873 = true then ((spec_l16Kids.f k ((rd_T71 x0 x4).f0) ((rd_T71 x0 x4).f1) ((rd_T71 x0 x4).f2) ((rd_T71 x0 x4).f3)).bind fun t875 => (spec_IsFormula.l1 k x0 x3 x4 t875 0)) else (some false))) else (none)) else (spec_IsFormula.l2 k x0 x3 0)
def spec_IsFormula.l1 : Nat → List (S71) → List Int → Int → List Int → Int → Option (Bool)
 | 0, _, _, _, _, _ => none
 | k + 1, x0, x3, x4, x5, x6 => if x6 < (x5.length : Int) then (if 0 ≤ x6 then (if 0 ≤ (rd x5 x6) then (if (rd x5 x6) < (x3.length : Int) then (spec_IsFormula.l1 k x0 (x3.set ((rd x5 x6) : Int).toNat (wrap64 ((rd x3 (rd x5 x6)) + 1))) x4 x5 (wrap64 (x6 + 1))) else (none)) else (none)) else (none)) else (spec_IsFormula.l0 k x0 x3 (wrap64 (x4 + 1)))
def spec_IsFormula.l2 : Nat → List (S71) → List Int → Int → Option (Bool)
 | 0, _, _, _ => none
 | k + 1, x0, x3, x7 => if x7 < (wrap64 ((x0.length : Int) - 1)) then (if 0 ≤ x7 then (if x7 < (x3.length : Int) then (if (rd x3 x7) = 1 then (spec_IsFormula.l2 k x0 x3 (wrap64 (x7 + 1))) else (some false)) else (none)) else (none)) else (some true)
end
def spec_IsFormula.f (k : Nat) (l0 : List (S71)) : Option (Bool) := (spec_l1In.f (l0.length : Int) 1 40).bind fun t868 => (if t868 = true then (if 0 ≤ (l0.length : Int) then (if ((l0.length : Int) : Int).toNat ≤ 35184372088832 then (spec_IsFormula.l0 k l0 (List.replicate ((l0.length : Int) : Int).toNat 0) 0) else (none)) else (none)) else (some false))
/-! spec_l19Values: function 94 -/
def spec_l19Values.l0 : Nat → List Int → Int → Option (Bool)
 | 0, _, _ => none
 | k + 1, x0, x3 => if x3 < (x0.length : Int) then (if 0 ≤ x3 then ((spec_l1In.f (rd x0 x3) 0 60000).bind fun t884 => (if t884 = true then (spec_l19Values.l0 k x0 (wrap64 (x3 + 1))) else (some false))) else (none)) else (some ((x0.length : Int) == 3))
def spec_l19Values.f (k : Nat) (l0 : List Int) : Option (Bool) := spec_l19Values.l0 k l0 0
/-! spec_l16Depth: function 118 -/
mutual
def spec_l16Depth.l0 : Nat → List (S71) → Int → Int → List Int → Int → Option (Int)
 | 0, _, _, _, _, _ => none
 | k + 1, x0, x1, x5, x6, x7 => if x7 < (x6.length : Int) then (if 0 ≤ x7 then ((spec_l16Depth.f k x0 (rd x6 x7)).bind fun t890 => (spec_l16Depth.l0 k x0 x1 (mx x5 t890) x6 (wrap64 (x7 + 1)))) else (none)) else (if 0 ≤ x1 then (if x1 < (x0.length : Int) then (if ((rd_T71 x0 x1).f0) = 9 then (some (wrap64 (x5 + 1))) else (if ((rd_T71 x0 x1).f0) = 10 then (some (wrap64 (x5 + 1))) else (some x5))) else (none)) else (none))
def spec_l16Depth.f : Nat → List (S71) → Int → Option (Int)
 | 0, _, _ => none
 | k + 1, l0, a1 => if 0 ≤ a1 then (if a1 < (l0.length : Int) then ((spec_l16Kids.f k ((rd_T71 l0 a1).f0) ((rd_T71 l0 a1).f1) ((rd_T71 l0 a1).f2) ((rd_T71 l0 a1).f3)).bind fun t886 => (spec_l16Depth.l0 k l0 a1 0 t886 0)) else (none)) else (none)
end
/-! spec_DepthOf: function 95 -/
def spec_DepthOf.f (k : Nat) (l0 : List (S71)) : Option (Int) := (spec_IsFormula.f k l0).bind fun t893 => (if t893 = true then ((spec_l16Depth.f k l0 (wrap64 ((l0.length : Int) - 1))).bind fun t894 => (some t894)) else (some (-1)))
/-! spec_PowerOf: function 127 -/
mutual
def spec_PowerOf.j0 : Nat → Int → Int → Bool → Option (Int)
 | 0, _, _, _ => none
 | k + 1, x0, x1, x14 => if x14 = true then (some 0) else (spec_PowerOf.l0 k x0 x1 1 0)
def spec_PowerOf.l0 : Nat → Int → Int → Int → Int → Option (Int)
 | 0, _, _, _, _ => none
 | k + 1, x0, x1, x5, x6 => if x6 < x1 then (spec_PowerOf.l0 k x0 x1 (wrap64 (x5 * x0)) (wrap64 (x6 + 1))) else (some x5)
end
def spec_PowerOf.f (k : Nat) (a0 : Int) (a1 : Int) : Option (Int) := (spec_l1In.f a0 2 4).bind fun t895 => (if t895 = true then ((spec_l1In.f a1 0 16).bind fun t896 => (spec_PowerOf.j0 k a0 a1 (!t896))) else (spec_PowerOf.j0 k a0 a1 true))
/-! spec_AreDigits: function 135 -/
def spec_AreDigits.l0 : Nat → List Int → Int → Int → Option (Bool)
 | 0, _, _, _ => none
 | k + 1, x0, x1, x5 => if x5 < (x0.length : Int) then (if 0 ≤ x5 then (if (rd x0 x5) < 0 then (some false) else (if (rd x0 x5) ≥ x1 then (some false) else (spec_AreDigits.l0 k x0 x1 (wrap64 (x5 + 1))))) else (none)) else ((spec_l1In.f x1 2 4).bind fun t899 => (if t899 = true then (some (decide ((x0.length : Int) ≤ 16))) else (some false)))
def spec_AreDigits.f (k : Nat) (l0 : List Int) (a1 : Int) : Option (Bool) := spec_AreDigits.l0 k l0 a1 0
/-! spec_StateAfter: function 128 -/
mutual
def spec_StateAfter.j0 : Nat → List Int → Bool → Int → List (List Int) → List Int → Option (Int)
 | 0, _, _, _, _, _ => none
 | k + 1, x1, x16, x901000, x901001, x901002 => if x16 = true then (some (-1)) else (spec_StateAfter.l0 k x1 0 0 x901000 x901001 x901002)
def spec_StateAfter.l0 : Nat → List Int → Int → Int → Int → List (List Int) → List Int → Option (Int)
 | 0, _, _, _, _, _, _ => none
 | k + 1, x1, x5, x6, x901000, x901001, x901002 => if x6 < (x1.length : Int) then (if 0 ≤ x5 then (if x5 < (x901001.length : Int) then (if 0 ≤ x6 then (if 0 ≤ (rd x1 x6) then (if (rd x1 x6) < ((rd_L1 x901001 x5).length : Int) then (spec_StateAfter.l0 k x1 (rd (rd_L1 x901001 x5) (rd x1 x6)) (wrap64 (x6 + 1)) x901000 x901001 x901002) else (none)) else (none)) else (none)) else (none)) else (none)) else (some x5)
end
def spec_StateAfter.f (k : Nat) (a0_0 : Int) (l0_1 : List (List Int)) (l0_2 : List Int) (l1 : List Int) : Option (Int) := (spec_IsSequence.f k a0_0 l0_1 l0_2).bind fun t901 => (if t901 = true then ((spec_AreDigits.f k l1 a0_0).bind fun t902 => (spec_StateAfter.j0 k l1 (!t902) a0_0 l0_1 l0_2)) else (spec_StateAfter.j0 k l1 true a0_0 l0_1 l0_2))
/-! spec_DigitsOf: function 129 -/
mutual
def spec_DigitsOf.j0 : Nat → Int → Int → List Int → Bool → Option (List Int)
 | 0, _, _, _, _ => none
 | k + 1, x0, x1, x5, x19 => if x19 = true then (some x5) else (spec_DigitsOf.l0 k x0 x1 x5)
def spec_DigitsOf.l0 : Nat → Int → Int → List Int → Option (List Int)
 | 0, _, _, _ => none
 | k + 1, x0, x1, x5 => if x0 > 0 then (if x1 = 0 then (none) else ((some (([Int.tmod x0 x1] : List Int) : List Int)).bind fun y911 => (if y911.length + x5.length < 17592186044416 then (spec_DigitsOf.l0 k (wrap64 (Int.tdiv x0 x1)) x1 (y911 ++ x5)) else (none)))) else (some x5)
end
def spec_DigitsOf.f (k : Nat) (a0 : Int) (a1 : Int) : Option (List Int) := (some (([] : List Int) : List Int)).bind fun y906 => (if a0 < 0 then (spec_DigitsOf.j0 k a0 a1 y906 true) else ((spec_l1In.f a1 2 4).bind fun t909 => (if t909 = true then ((spec_PowerOf.f k a1 16).bind fun t910 => (spec_DigitsOf.j0 k a0 a1 y906 (decide (a0 ≥ t910)))) else (spec_DigitsOf.j0 k a0 a1 y906 true))))
/-! spec_TermAt: function 119 -/
def spec_TermAt.j0 : Nat → Int → Bool → Int → List (List Int) → List Int → Option (Int)
 | 0, _, _, _, _, _ => none
 | k + 1, x1, x18, x918000, x918001, x918002 => if x18 = true then (some (-1)) else ((spec_DigitsOf.f k x1 x918000).bind fun t920 => ((spec_StateAfter.f k x918000 x918001 x918002 t920).bind fun t923 => (if 0 ≤ t923 then (if t923 < (x918002.length : Int) then (some (rd x918002 t923)) else (none)) else (none))))
def spec_TermAt.f (k : Nat) (a0_0 : Int) (l0_1 : List (List Int)) (l0_2 : List Int) (a1 : Int) : Option (Int) := if a1 < 0 then (spec_TermAt.j0 k a1 true a0_0 l0_1 l0_2) else ((spec_IsSequence.f k a0_0 l0_1 l0_2).bind fun t918 => (if t918 = true then ((spec_PowerOf.f k a0_0 16).bind fun t919 => (spec_TermAt.j0 k a1 (decide (a1 ≥ t919)) a0_0 l0_1 l0_2)) else (spec_TermAt.j0 k a1 true a0_0 l0_1 l0_2)))
/-! spec_l19Node: function 96 -/
mutual
def spec_l19Node.l0 : Nat → List (S71) → List Int → Int → Int → Int → List (List Int) → List Int → Int → Int → Int → Int → Option (Bool)
 | 0, _, _, _, _, _, _, _, _, _, _, _ => none
 | k + 1, x1, x3, x4, x12, x926000, x926001, x926002, x928000, x928001, x928002, x928003 => if x12 ≤ x4 then ((some (([] : List Int) : List Int)).bind fun y943 => (if y943.length + x3.length < 17592186044416 then ((some (y943 ++ x3 : List Int)).bind fun y946 => (if 0 ≤ x928001 then (if x928001 < (y946.length : Int) then ((spec_l19Node.f k x926000 x926001 x926002 x1 x928002 (y946.set (x928001 : Int).toNat x12) x4).bind fun t950 => (if (t950 == (x928000 == 9)) = true then (some t950) else (spec_l19Node.l0 k x1 x3 x4 (wrap64 (x12 + 1)) x926000 x926001 x926002 x928000 x928001 x928002 x928003))) else (none)) else (none))) else (none))) else (some (x928000 == 10))
def spec_l19Node.f : Nat → Int → List (List Int) → List Int → List (S71) → Int → List Int → Int → Option (Bool)
 | 0, _, _, _, _, _, _, _ => none
 | k + 1, a0_0, l0_1, l0_2, l1, a2, l3, a4 => if 0 ≤ a2 then (if a2 < (l1.length : Int) then (if ((rd_T71 l1 a2).f0) = 1 then (if 0 ≤ ((rd_T71 l1 a2).f1) then (if ((rd_T71 l1 a2).f1) < (l3.length : Int) then (if 0 ≤ ((rd_T71 l1 a2).f2) then (if ((rd_T71 l1 a2).f2) < (l3.length : Int) then (some ((rd l3 ((rd_T71 l1 a2).f1)) == (rd l3 ((rd_T71 l1 a2).f2)))) else (none)) else (none)) else (none)) else (none)) else (if ((rd_T71 l1 a2).f0) = 2 then (if 0 ≤ ((rd_T71 l1 a2).f1) then (if ((rd_T71 l1 a2).f1) < (l3.length : Int) then (if 0 ≤ ((rd_T71 l1 a2).f2) then (if ((rd_T71 l1 a2).f2) < (l3.length : Int) then (some (decide ((rd l3 ((rd_T71 l1 a2).f1)) < (rd l3 ((rd_T71 l1 a2).f2))))) else (none)) else (none)) else (none)) else (none)) else (if ((rd_T71 l1 a2).f0) = 3 then (if 0 ≤ ((rd_T71 l1 a2).f1) then (if ((rd_T71 l1 a2).f1) < (l3.length : Int) then (if 0 ≤ ((rd_T71 l1 a2).f2) then (if ((rd_T71 l1 a2).f2) < (l3.length : Int) then (if 0 ≤ ((rd_T71 l1 a2).f3) then (if ((rd_T71 l1 a2).f3) < (l3.length : Int) then (some ((wrap64 ((rd l3 ((rd_T71 l1 a2).f1)) + (rd l3 ((rd_T71 l1 a2).f2)))) == (rd l3 ((rd_T71 l1 a2).f3)))) else (none)) else (none)) else (none)) else (none)) else (none)) else (none)) else (if ((rd_T71 l1 a2).f0) = 4 then (if 0 ≤ ((rd_T71 l1 a2).f1) then (if ((rd_T71 l1 a2).f1) < (l3.length : Int) then (some ((rd l3 ((rd_T71 l1 a2).f1)) == ((rd_T71 l1 a2).f2))) else (none)) else (none)) else (if ((rd_T71 l1 a2).f0) = 5 then (if 0 ≤ ((rd_T71 l1 a2).f1) then (if ((rd_T71 l1 a2).f1) < (l3.length : Int) then ((spec_TermAt.f k a0_0 l0_1 l0_2 (rd l3 ((rd_T71 l1 a2).f1))).bind fun t937 => (some (t937 == ((rd_T71 l1 a2).f2)))) else (none)) else (none)) else (if ((rd_T71 l1 a2).f0) = 6 then ((spec_l19Node.f k a0_0 l0_1 l0_2 l1 ((rd_T71 l1 a2).f1) l3 a4).bind fun t938 => (some (!t938))) else (if ((rd_T71 l1 a2).f0) = 7 then ((spec_l19Node.f k a0_0 l0_1 l0_2 l1 ((rd_T71 l1 a2).f1) l3 a4).bind fun t939 => (if t939 = true then ((spec_l19Node.f k a0_0 l0_1 l0_2 l1 ((rd_T71 l1 a2).f2) l3 a4).bind fun t940 => (some t940)) else (some false))) else (if ((rd_T71 l1 a2).f0) = 8 then ((spec_l19Node.f k a0_0 l0_1 l0_2 l1 ((rd_T71 l1 a2).f1) l3 a4).bind fun t941 => (if t941 = true then (some true) else ((spec_l19Node.f k a0_0 l0_1 l0_2 l1 ((rd_T71 l1 a2).f2) l3 a4).bind fun t942 => (some t942)))) else (spec_l19Node.l0 k l1 l3 a4 0 a0_0 l0_1 l0_2 ((rd_T71 l1 a2).f0) ((rd_T71 l1 a2).f1) ((rd_T71 l1 a2).f2) ((rd_T71 l1 a2).f3)))))))))) else (none)) else (none)
end
/-! spec_EvaluateFormula: function 60 -/
def spec_EvaluateFormula.f (k : Nat) (a0_0 : Int) (l0_1 : List (List Int)) (l0_2 : List Int) (l1 : List (S71)) (l2 : List Int) (a3 : Int) : Option (Bool) := (spec_IsSequence.f k a0_0 l0_1 l0_2).bind fun t952 => (if t952 = true then ((spec_IsFormula.f k l1).bind fun t953 => (if t953 = true then ((spec_l19Values.f k l2).bind fun t954 => (if t954 = true then ((spec_l1In.f a3 0 12).bind fun t955 => (if t955 = true then ((spec_DepthOf.f k l1).bind fun t956 => (if t956 > 3 then (some false) else ((spec_l19Node.f k a0_0 l0_1 l0_2 l1 (wrap64 ((l1.length : Int) - 1)) l2 a3).bind fun t957 => (some t957)))) else (some false))) else (some false))) else (some false))) else (some false))
/-! spec_l11Word: function 61 -/
def spec_l11Word.l0 : Nat → Int → Int → List Int → Int → Option (List Int)
 | 0, _, _, _, _ => none
 | k + 1, x0, x2, x7, x8 => if x8 ≥ 0 then (if x0 = 0 then (none) else (if 0 ≤ x8 then (if x8 < (x7.length : Int) then (spec_l11Word.l0 k x0 (wrap64 (Int.tdiv x2 x0)) (x7.set (x8 : Int).toNat (Int.tmod x2 x0)) (wrap64 (x8 - 1))) else (none)) else (none))) else (some x7)
def spec_l11Word.f (k : Nat) (a0 : Int) (a1 : Int) (a2 : Int) : Option (List Int) := if 0 ≤ a1 then (if (a1 : Int).toNat ≤ 35184372088832 then (spec_l11Word.l0 k a0 a2 (List.replicate (a1 : Int).toNat 0) (wrap64 (a1 - 1))) else (none)) else (none)
/-! spec_BoundedSolutions: function 28 -/
mutual
def spec_BoundedSolutions.l0 : Nat → List (S71) → Int → Int → Int → Int → List (List Int) → List Int → Option (Int)
 | 0, _, _, _, _, _, _, _ => none
 | k + 1, x1, x2, x7, x8, x963000, x963001, x963002 => (spec_l1In.f x2 0 5).bind fun t963 => (if t963 = true then ((spec_l11Power.f k (wrap64 (x2 + 1)) 3).bind fun t964 => (spec_BoundedSolutions.j1 k x1 x2 x7 x8 (decide (x8 < t964)) x963000 x963001 x963002)) else (spec_BoundedSolutions.j1 k x1 x2 x7 x8 false x963000 x963001 x963002))
def spec_BoundedSolutions.j1 : Nat → List (S71) → Int → Int → Int → Bool → Int → List (List Int) → List Int → Option (Int)
 | 0, _, _, _, _, _, _, _, _ => none
 | k + 1, x1, x2, x7, x8, x17, x963000, x963001, x963002 => if x17 = true then ((spec_l11Word.f k (wrap64 (x2 + 1)) 3 x8).bind fun t965 => ((spec_EvaluateFormula.f k x963000 x963001 x963002 x1 t965 x2).bind fun t968 => (if t968 = true then (spec_BoundedSolutions.l0 k x1 x2 (wrap64 (x7 + 1)) (wrap64 (x8 + 1)) x963000 x963001 x963002) else (spec_BoundedSolutions.l0 k x1 x2 x7 (wrap64 (x8 + 1)) x963000 x963001 x963002)))) else (some x7)
end
def spec_BoundedSolutions.f (k : Nat) (a0_0 : Int) (l0_1 : List (List Int)) (l0_2 : List Int) (l1 : List (S71)) (a2 : Int) : Option (Int) := spec_BoundedSolutions.l0 k l1 a2 0 0 a0_0 l0_1 l0_2
/-! impl_allWords: function 63 -/
mutual
def impl_allWords.l0 : Nat → Int → List (List Int) → Int → Int → Option ((List (List Int)))
 | 0, _, _, _, _ => none
 | k + 1, x0, x5, x12, x13 => if x13 < x12 then (impl_allWords.l1 k x0 (([] : List (List Int))) x12 x13 x5 (x5.length : Int) 0) else (some x5)
def impl_allWords.l1 : Nat → Int → List (List Int) → Int → Int → List (List Int) → Int → Int → Option ((List (List Int)))
 | 0, _, _, _, _, _, _, _ => none
 | k + 1, x0, x6, x12, x13, x16, x17, x18 => if x18 < x17 then (if 0 ≤ x18 then (if x18 < (x16.length : Int) then (impl_allWords.l2 k x0 x6 (rd_L1 x16 x18) x12 x13 x16 x17 x18 x0 0) else (none)) else (none)) else (impl_allWords.l0 k x0 x6 x12 (wrap64 (x13 + 1)))
def impl_allWords.l2 : Nat → Int → List (List Int) → List Int → Int → Int → List (List Int) → Int → Int → Int → Int → Option ((List (List Int)))
 | 0, _, _, _, _, _, _, _, _, _, _ => none
 | k + 1, x0, x6, x8, x12, x13, x16, x17, x18, x22, x23 => if x23 < x22 then ((some (([] : List Int) : List Int)).bind fun y991 => (if y991.length + x8.length < 17592186044416 then ((some (y991 ++ x8 : List Int)).bind fun y994 => (if y994.length < 17592186044416 then (if x6.length < 5864062014805 then (impl_allWords.l2 k x0 (x6 ++ [(y994 ++ [x23])]) x8 x12 x13 x16 x17 x18 x22 (wrap64 (x23 + 1))) else (none)) else (none))) else (none))) else (impl_allWords.l1 k x0 x6 x12 x13 x16 x17 (wrap64 (x18 + 1)))
end
def impl_allWords.f (k : Nat) (a0 : Int) (a1 : Int) : Option ((List (List Int))) := impl_allWords.l0 k a0 (([(([] : List Int))] : List (List Int))) a1 0
/-! impl_isVariable: function 130 -/
def impl_isVariable.f (a0 : Int) : Option (Bool) := if a0 ≥ 0 then (some (decide (a0 < 3))) else (some false)
/-! impl_Node_kids: function 121 -/
mutual
def impl_Node_kids.j0 : Nat → Int → Bool → Int → Int → Int → Int → Option (List Int × Bool)
 | 0, _, _, _, _, _, _ => none
 | k + 1, x5, x6, x1004000, x1004001, x1004002, x1004003 => if x6 = true then ((impl_isVariable.f x1004001).bind fun t1004 => (if t1004 = true then ((impl_isVariable.f x1004002).bind fun t1005 => (if t1005 = true then (some (([] : List Int), (x1004003 == 0))) else (some (([] : List Int), false)))) else (some (([] : List Int), false)))) else (if x5 = 3 then ((impl_isVariable.f x1004001).bind fun t1006 => (if t1006 = true then ((impl_isVariable.f x1004002).bind fun t1007 => (if t1007 = true then ((impl_isVariable.f x1004003).bind fun t1008 => (some (([] : List Int), t1008))) else (some (([] : List Int), false)))) else (some (([] : List Int), false)))) else (if x5 = 4 then ((impl_isVariable.f x1004001).bind fun t1009 => (if t1009 = true then (if x1004002 ≥ 0 then (if x1004002 ≤ 255 then (some (([] : List Int), (x1004003 == 0))) else (some (([] : List Int), false))) else (some (([] : List Int), false))) else (some (([] : List Int), false)))) else (if x5 = 5 then ((impl_isVariable.f x1004001).bind fun t1010 => (if t1010 = true then ((impl_isTerm.f x1004002).bind fun t1011 => (if t1011 = true then (some (([] : List Int), (x1004003 == 0))) else (some (([] : List Int), false)))) else (some (([] : List Int), false)))) else (if x5 = 6 then ((some (([x1004001] : List Int) : List Int)).bind fun y1012 => (if x1004002 = 0 then (some (y1012, (x1004003 == 0))) else (some (y1012, false)))) else (if x5 = 7 then (impl_Node_kids.j1 k x5 (x5 == 7) x1004000 x1004001 x1004002 x1004003) else (impl_Node_kids.j1 k x5 (x5 == 8) x1004000 x1004001 x1004002 x1004003))))))
def impl_Node_kids.j1 : Nat → Int → Bool → Int → Int → Int → Int → Option (List Int × Bool)
 | 0, _, _, _, _, _, _ => none
 | k + 1, x5, x85, x1004000, x1004001, x1004002, x1004003 => if x85 = true then (some ((([x1004001, x1004002] : List Int)), (x1004003 == 0))) else (if x5 = 9 then ((some (([x1004002] : List Int) : List Int)).bind fun y1018 => ((impl_isVariable.f x1004001).bind fun t1021 => (if t1021 = true then (some (y1018, (x1004003 == 0))) else (some (y1018, false))))) else (if x5 = 10 then ((some (([x1004002] : List Int) : List Int)).bind fun y1022 => ((impl_isVariable.f x1004001).bind fun t1025 => (if t1025 = true then (some (y1022, (x1004003 == 0))) else (some (y1022, false))))) else (some (([] : List Int), false))))
end
def impl_Node_kids.f (k : Nat) (a0_0 : Int) (a0_1 : Int) (a0_2 : Int) (a0_3 : Int) : Option (List Int × Bool) := if a0_0 = 1 then (impl_Node_kids.j0 k a0_0 (a0_0 == 1) a0_0 a0_1 a0_2 a0_3) else (impl_Node_kids.j0 k a0_0 (a0_0 == 2) a0_0 a0_1 a0_2 a0_3)
/-! impl_IsFormula: function 98 -/
mutual
def impl_IsFormula.j0 : Nat → List (S71) → Bool → Option (Bool)
 | 0, _, _ => none
 | k + 1, x0, x19 => if x19 = true then (some false) else (if 0 ≤ (x0.length : Int) then (if ((x0.length : Int) : Int).toNat ≤ 281474976710656 then (impl_IsFormula.l0 k x0 (List.replicate ((x0.length : Int) : Int).toNat false) x0 (x0.length : Int) 0) else (none)) else (none))
def impl_IsFormula.l0 : Nat → List (S71) → List Bool → List (S71) → Int → Int → Option (Bool)
 | 0, _, _, _, _, _ => none
 | k + 1, x0, x3, x23, x24, x25 => if x25 < x24 then (if 0 ≤ x25 then (if x25 < (x23.length : Int) then ((impl_Node_kids.f k ((rd_T71 x23 x25).f0) ((rd_T71 x23 x25).f1) ((rd_T71 x23 x25).f2) ((rd_T71 x23 x25).f3)).bind fun bt1031 => (if bt1031.2 = true then (impl_IsFormula.l1 k x0 x3 x25 x23 x24 x25 bt1031.1 (bt1031.1.length : Int) 0) else (some false))) else (none)) else (none)) else (if 0 ≤ (wrap64 ((x0.length : Int) - 1)) then (if (wrap64 ((x0.length : Int) - 1)) ≤ (x3.length : Int) then ((some (x3.take ((wrap64 ((x0.length : Int) - 1)) : Int).toNat : List Bool)).bind fun y1038 => (impl_IsFormula.l2 k y1038 (y1038.length : Int) 0)) else (none)) else (none))
def impl_IsFormula.l1 : Nat → List (S71) → List Bool → Int → List (S71) → Int → Int → List Int → Int → Int → Option (Bool)
 | 0, _, _, _, _, _, _, _, _, _ => none
 | k + 1, x0, x3, x4, x23, x24, x25, x37, x38, x39 => if x39 < x38 then (if 0 ≤ x39 then (if x39 < (x37.length : Int) then (if (rd x37 x39) < 0 then (some false) else (if (rd x37 x39) ≥ x4 then (some false) else (if 0 ≤ (rd x37 x39) then (if (rd x37 x39) < (x3.length : Int) then (if rdOf false x3 (rd x37 x39) = true then (some false) else (impl_IsFormula.l1 k x0 (x3.set ((rd x37 x39) : Int).toNat true) x4 x23 x24 x25 x37 x38 (wrap64 (x39 + 1)))) else (none)) else (none)))) else (none)) else (none)) else (impl_IsFormula.l0 k x0 x3 x23 x24 (wrap64 (x25 + 1)))
def impl_IsFormula.l2 : Nat → List Bool → Int → Int → Option (Bool)
 | 0, _, _, _ => none
 | k + 1, x65, x66, x67 => if x67 < x66 then (if 0 ≤ x67 then (if x67 < (x65.length : Int) then (if rdOf false x65 x67 = true then (impl_IsFormula.l2 k x65 x66 (wrap64 (x67 + 1))) else (some false)) else (none)) else (none)) else (some true)
end
def impl_IsFormula.f (k : Nat) (l0 : List (S71)) : Option (Bool) := if (l0.length : Int) < 1 then (impl_IsFormula.j0 k l0 true) else (impl_IsFormula.j0 k l0 (decide ((l0.length : Int) > 40)))
/-! impl_Node_isQuantifier: function 131 -/
def impl_Node_isQuantifier.f (a0_0 : Int) (a0_1 : Int) (a0_2 : Int) (a0_3 : Int) : Option (Bool) := if a0_0 = 9 then (some true) else (some (a0_0 == 10))
/-! impl_depth: function 122 -/
mutual
def impl_depth.l0 : Nat → List (S71) → Int → Int → List Int → Int → Int → Option (Int)
 | 0, _, _, _, _, _, _ => none
 | k + 1, x0, x1, x5, x18, x19, x20 => if x20 < x19 then (if 0 ≤ x20 then (if x20 < (x18.length : Int) then ((impl_depth.f k x0 (rd x18 x20)).bind fun t1050 => (impl_depth.l0 k x0 x1 (mx x5 t1050) x18 x19 (wrap64 (x20 + 1)))) else (none)) else (none)) else (if 0 ≤ x1 then (if x1 < (x0.length : Int) then ((impl_Node_isQuantifier.f ((rd_T71 x0 x1).f0) ((rd_T71 x0 x1).f1) ((rd_T71 x0 x1).f2) ((rd_T71 x0 x1).f3)).bind fun t1052 => ((impl_oneIf.f t1052).bind fun t1053 => (some (wrap64 (x5 + t1053))))) else (none)) else (none))
def impl_depth.f : Nat → List (S71) → Int → Option (Int)
 | 0, _, _ => none
 | k + 1, l0, a1 => if 0 ≤ a1 then (if a1 < (l0.length : Int) then ((impl_Node_kids.f k ((rd_T71 l0 a1).f0) ((rd_T71 l0 a1).f1) ((rd_T71 l0 a1).f2) ((rd_T71 l0 a1).f3)).bind fun bt1045 => (impl_depth.l0 k l0 a1 0 bt1045.1 (bt1045.1.length : Int) 0)) else (none)) else (none)
end
/-! impl_DepthOf: function 99 -/
def impl_DepthOf.f (k : Nat) (l0 : List (S71)) : Option (Int) := (impl_IsFormula.f k l0).bind fun t1054 => (if t1054 = true then ((impl_depth.f k l0 (wrap64 ((l0.length : Int) - 1))).bind fun t1055 => (some t1055)) else (some (-1)))
/-! impl_Sequence_after: function 132 -/
def impl_Sequence_after.l0 : Nat → Int → List Int → Int → Int → Int → List (List Int) → List Int → Option (Int)
 | 0, _, _, _, _, _, _, _ => none
 | k + 1, x5, x8, x9, x10, x1057000, x1057001, x1057002 => if x10 < x9 then (if 0 ≤ x10 then (if x10 < (x8.length : Int) then (if 0 ≤ x5 then (if x5 < (x1057001.length : Int) then (if 0 ≤ (rd x8 x10) then (if (rd x8 x10) < ((rd_L1 x1057001 x5).length : Int) then (impl_Sequence_after.l0 k (rd (rd_L1 x1057001 x5) (rd x8 x10)) x8 x9 (wrap64 (x10 + 1)) x1057000 x1057001 x1057002) else (none)) else (none)) else (none)) else (none)) else (none)) else (none)) else (some x5)
def impl_Sequence_after.f (k : Nat) (a0_0 : Int) (l0_1 : List (List Int)) (l0_2 : List Int) (l1 : List Int) : Option (Int) := impl_Sequence_after.l0 k 0 l1 (l1.length : Int) 0 a0_0 l0_1 l0_2
/-! slices_Reverse_int_int: function 136 -/
def slices_Reverse_int_int.l0 : Nat → List Int → Int → Int → Option (List Int)
 | 0, _, _, _ => none
 | k + 1, x0, x2, x3 => if x2 < x3 then (if 0 ≤ x3 then (if x3 < (x0.length : Int) then (if 0 ≤ x2 then (if x2 < (x0.length : Int) then (slices_Reverse_int_int.l0 k ((x0.set (x2 : Int).toNat (rd x0 x3)).set (x3 : Int).toNat (rd x0 x2)) (wrap64 (x2 + 1)) (wrap64 (x3 - 1))) else (none)) else (none)) else (none)) else (none)) else (some x0)
def slices_Reverse_int_int.f (k : Nat) (l0 : List Int) : Option (List Int) := slices_Reverse_int_int.l0 k l0 0 (wrap64 ((l0.length : Int) - 1))
/-! impl_digits: function 133 -/
def impl_digits.l0 : Nat → Int → Int → List Int → Option (List Int)
 | 0, _, _, _ => none
 | k + 1, x0, x1, x5 => if x0 > 0 then (if x1 = 0 then (none) else (if x5.length < 17592186044416 then (impl_digits.l0 k (wrap64 (Int.tdiv x0 x1)) x1 (x5 ++ [Int.tmod x0 x1])) else (none))) else ((slices_Reverse_int_int.f k x5).bind fun t1070 => (some t1070))
def impl_digits.f (k : Nat) (a0 : Int) (a1 : Int) : Option (List Int) := impl_digits.l0 k a0 a1 (([] : List Int))
/-! impl_Sequence_term: function 123 -/
def impl_Sequence_term.f (k : Nat) (a0_0 : Int) (l0_1 : List (List Int)) (l0_2 : List Int) (a1 : Int) : Option (Int) := (impl_digits.f k a1 a0_0).bind fun t1072 => ((impl_Sequence_after.f k a0_0 l0_1 l0_2 t1072).bind fun t1075 => (if 0 ≤ t1075 then (if t1075 < (l0_2.length : Int) then (some (rd l0_2 t1075)) else (none)) else (none)))
/-! spec_l15Digit: function 101 -/
def spec_l15Digit.l0 : Nat → Int → Int → Int → Int → Option (Int)
 | 0, _, _, _, _ => none
 | k + 1, x0, x2, x3, x9 => if x9 > x3 then (if x0 = 0 then (none) else (spec_l15Digit.l0 k x0 (wrap64 (Int.tdiv x2 x0)) x3 (wrap64 (x9 - 1)))) else (if x0 = 0 then (none) else (some (Int.tmod x2 x0)))
def spec_l15Digit.f (k : Nat) (a0 : Int) (a1 : Int) (a2 : Int) (a3 : Int) : Option (Int) := spec_l15Digit.l0 k a0 a2 a3 (wrap64 (a1 - 1))
/-! spec_l15Letter: function 68 -/
def spec_l15Letter.l0 : Nat → Int → Int → Int → Int → Int → Int → Int → Int → Option (Int)
 | 0, _, _, _, _, _, _, _, _ => none
 | k + 1, x0, x1, x2, x3, x4, x11, x12, x13 => if x13 < x1 then (if x13 = x3 then (spec_l15Letter.l0 k x0 x1 x2 x3 x4 (wrap64 ((wrap64 (x11 * x0)) + x4)) x12 (wrap64 (x13 + 1))) else ((spec_l15Digit.f k x0 (wrap64 (x1 - 1)) x2 x12).bind fun t1127 => (spec_l15Letter.l0 k x0 x1 x2 x3 x4 (wrap64 ((wrap64 (x11 * x0)) + t1127)) (wrap64 (x12 + 1)) (wrap64 (x13 + 1))))) else (some x11)
def spec_l15Letter.f (k : Nat) (a0 : Int) (a1 : Int) (a2 : Int) (a3 : Int) (a4 : Int) : Option (Int) := spec_l15Letter.l0 k a0 a1 a2 a3 a4 0 0 0
/-! spec_l4Has: function 69 -/
def spec_l4Has.l0 : Nat → List Int → Int → Int → Option (Bool)
 | 0, _, _, _ => none
 | k + 1, x0, x1, x5 => if x5 < (x0.length : Int) then (if 0 ≤ x5 then (if (rd x0 x5) = x1 then (some true) else (spec_l4Has.l0 k x0 x1 (wrap64 (x5 + 1)))) else (none)) else (some false)
def spec_l4Has.f (k : Nat) (l0 : List Int) (a1 : Int) : Option (Bool) := spec_l4Has.l0 k l0 a1 0
/-! spec_l15Set: function 70 -/
def spec_l15Set.l0 : Nat → List Int → List Int → Int → Option (List Int)
 | 0, _, _, _ => none
 | k + 1, x1, x5, x6 => if x6 < (x1.length : Int) then (if 0 ≤ x6 then (if 0 ≤ (rd x1 x6) then (if (rd x1 x6) < (x5.length : Int) then (spec_l15Set.l0 k x1 (x5.set ((rd x1 x6) : Int).toNat 1) (wrap64 (x6 + 1))) else (none)) else (none)) else (none)) else (some x5)
def spec_l15Set.f (k : Nat) (a0 : Int) (l1 : List Int) : Option (List Int) := if 0 ≤ a0 then (if (a0 : Int).toNat ≤ 35184372088832 then (spec_l15Set.l0 k l1 (List.replicate (a0 : Int).toNat 0) 0) else (none)) else (none)
/-! impl_letterOf: function 105 -/
def impl_letterOf.l0 : Nat → Int → Int → List Int → Int → Int → Option (Int)
 | 0, _, _, _, _, _ => none
 | k + 1, x0, x5, x8, x9, x10 => if x10 < x9 then (if 0 ≤ x10 then (if x10 < (x8.length : Int) then (impl_letterOf.l0 k x0 (wrap64 ((wrap64 (x5 * x0)) + (rd x8 x10))) x8 x9 (wrap64 (x10 + 1))) else (none)) else (none)) else (some x5)
def impl_letterOf.f (k : Nat) (a0 : Int) (l1 : List Int) : Option (Int) := impl_letterOf.l0 k a0 0 l1 (l1.length : Int) 0
/-! impl_tracksOf: function 77 -/
def impl_tracksOf.l0 : Nat → Int → Int → List Int → Int → Option (List Int)
 | 0, _, _, _, _ => none
 | k + 1, x0, x2, x7, x8 => if x8 ≥ 0 then (if x0 = 0 then (none) else (if 0 ≤ x8 then (if x8 < (x7.length : Int) then (impl_tracksOf.l0 k x0 (wrap64 (Int.tdiv x2 x0)) (x7.set (x8 : Int).toNat (Int.tmod x2 x0)) (wrap64 (x8 - 1))) else (none)) else (none))) else (some x7)
def impl_tracksOf.f (k : Nat) (a0 : Int) (a1 : Int) (a2 : Int) : Option (List Int) := if 0 ≤ a1 then (if (a1 : Int).toNat ≤ 35184372088832 then (impl_tracksOf.l0 k a0 a2 (List.replicate (a1 : Int).toNat 0) (wrap64 (a1 - 1))) else (none)) else (none)
/-! spec_l13Copy: function 106 -/
def spec_l13Copy.l0 : Nat → Int → Int → Int → List (List Int) → List Bool → Int → Int → List (List Int) → List Bool → Option (Int × Int × (List (List Int)) × List Bool)
 | 0, _, _, _, _, _, _, _, _, _ => none
 | k + 1, x4, x1232000, x1232001, x1232002, x1232003, x1240000, x1240001, x1240002, x1240003 => if x4 < (x1232002.length : Int) then ((some (([] : List Int) : List Int)).bind fun y1240 => (if 0 ≤ x4 then (if y1240.length + (rd_L1 x1232002 x4).length < 17592186044416 then (if x1240002.length < 5864062014805 then (spec_l13Copy.l0 k (wrap64 (x4 + 1)) x1232000 x1232001 x1232002 x1232003 x1240000 x1240001 (x1240002 ++ [(y1240 ++ (rd_L1 x1232002 x4))]) x1240003) else (none)) else (none)) else (none))) else (some (x1240000, x1240001, x1240002, x1240003))
def spec_l13Copy.f (k : Nat) (a0_0 : Int) (a0_1 : Int) (l0_2 : List (List Int)) (l0_3 : List Bool) : Option (Int × Int × (List (List Int)) × List Bool) := (some (([] : List Bool) : List Bool)).bind fun y1233 => (if y1233.length + l0_3.length < 140737488355328 then (spec_l13Copy.l0 k 0 a0_0 a0_1 l0_2 l0_3 a0_0 a0_1 ([] : List (List Int)) (y1233 ++ l0_3)) else (none))
/-! spec_NotRelation: function 79 -/
def spec_NotRelation.l0 : Nat → Int → Int → Int → List (List Int) → List Bool → Int → Int → List (List Int) → List Bool → Option (Int × Int × (List (List Int)) × List Bool × Bool)
 | 0, _, _, _, _, _, _, _, _, _ => none
 | k + 1, x5, x1251000, x1251001, x1251002, x1251003, x1262000, x1262001, x1262002, x1262003 => if x5 < (x1262003.length : Int) then (if 0 ≤ x5 then (if x5 < (x1251003.length : Int) then (spec_NotRelation.l0 k (wrap64 (x5 + 1)) x1251000 x1251001 x1251002 x1251003 x1262000 x1262001 x1262002 (x1262003.set (x5 : Int).toNat (!(rdOf false x1251003 x5)))) else (none)) else (none)) else ((spec_ReducedRelation.f k x1262000 x1262001 x1262002 x1262003).bind fun bt1264 => (some (bt1264.1, bt1264.2.1, bt1264.2.2.1, bt1264.2.2.2.1, bt1264.2.2.2.2)))
def spec_NotRelation.f (k : Nat) (a0_0 : Int) (a0_1 : Int) (l0_2 : List (List Int)) (l0_3 : List Bool) : Option (Int × Int × (List (List Int)) × List Bool × Bool) := (spec_IsRelation.f k a0_0 a0_1 l0_2 l0_3).bind fun t1252 => (if t1252 = true then ((spec_l13Copy.f k a0_0 a0_1 l0_2 l0_3).bind fun bt1253 => (spec_NotRelation.l0 k 0 a0_0 a0_1 l0_2 l0_3 bt1253.1 bt1253.2.1 bt1253.2.2.1 bt1253.2.2.2)) else (some (0, 0, ([] : List (List Int)), ([] : List Bool), false)))
/-! impl_NotRelation: function 80 -/
def impl_NotRelation.l0 : Nat → List Bool → Int → Int → Int → Int → List (List Int) → List Bool → Option (Int × Int × (List (List Int)) × List Bool × Bool)
 | 0, _, _, _, _, _, _, _ => none
 | k + 1, x19, x20, x21, x1290000, x1290001, x1290002, x1290003 => if x21 < x20 then (if 0 ≤ x21 then (if x21 < (x19.length : Int) then (if x1290003.length < 140737488355328 then (impl_NotRelation.l0 k x19 x20 (wrap64 (x21 + 1)) x1290000 x1290001 x1290002 (x1290003 ++ [!(rdOf false x19 x21)])) else (none)) else (none)) else (none)) else ((impl_Relation_reduced.f k x1290000 x1290001 x1290002 x1290003).bind fun bt1294 => (some (bt1294.1, bt1294.2.1, bt1294.2.2.1, bt1294.2.2.2, true)))
def impl_NotRelation.f (k : Nat) (a0_0 : Int) (a0_1 : Int) (l0_2 : List (List Int)) (l0_3 : List Bool) : Option (Int × Int × (List (List Int)) × List Bool × Bool) := (impl_IsRelation.f k a0_0 a0_1 l0_2 l0_3).bind fun t1288 => (if t1288 = true then (impl_NotRelation.l0 k l0_3 (l0_3.length : Int) 0 a0_0 a0_1 l0_2 ([] : List Bool)) else (some (0, 0, ([] : List (List Int)), ([] : List Bool), false)))
/-! spec_l14Both: function 54 -/
mutual
def spec_l14Both.j0 : Nat → Bool → Bool → Int → Int → List (List Int) → List Bool → Int → Int → List (List Int) → List Bool → Option (Int × Int × (List (List Int)) × List Bool × Bool)
 | 0, _, _, _, _, _, _, _, _, _, _ => none
 | k + 1, x2, x40, x204000, x204001, x204002, x204003, x205000, x205001, x205002, x205003 => if x40 = true then (some (0, 0, ([] : List (List Int)), ([] : List Bool), false)) else (if 0 ≤ (wrap64 ((x204002.length : Int) * (x205002.length : Int))) then (if (wrap64 ((x204002.length : Int) * (x205002.length : Int)) : Int).toNat ≤ 35184372088832 then ((some (List.replicate (wrap64 ((x204002.length : Int) * (x205002.length : Int)) : Int).toNat 0 : List Int)).bind fun y214 => (if 0 < (y214.length : Int) then (spec_l14Both.l0 k x2 (([] : List (List Int))) (([] : List Bool)) (y214.set (0 : Int).toNat 1) (([0] : List Int)) 0 x204000 x204001 x204002 x204003 x205000 x205001 x205002 x205003) else (none))) else (none)) else (none))
def spec_l14Both.l0 : Nat → Bool → List (List Int) → List Bool → List Int → List Int → Int → Int → Int → List (List Int) → List Bool → Int → Int → List (List Int) → List Bool → Option (Int × Int × (List (List Int)) × List Bool × Bool)
 | 0, _, _, _, _, _, _, _, _, _, _, _, _, _, _ => none
 | k + 1, x2, x8, x9, x10, x11, x12, x204000, x204001, x204002, x204003, x205000, x205001, x205002, x205003 => if x12 < (x11.length : Int) then (if 0 ≤ x12 then (if (x205002.length : Int) = 0 then (none) else (spec_l14Both.l1 k x2 x8 x9 x10 x11 x12 (wrap64 (Int.tdiv (rd x11 x12) (x205002.length : Int))) (Int.tmod (rd x11 x12) (x205002.length : Int)) (([] : List Int)) 0 x204000 x204001 x204002 x204003 x205000 x205001 x205002 x205003)) else (none)) else ((spec_l13Reduce.f k x204000 x204001 x8 x9).bind fun bt221 => (if (bt221.2.2.1.length : Int) > 48 then (some (0, 0, ([] : List (List Int)), ([] : List Bool), false)) else (some (bt221.1, bt221.2.1, bt221.2.2.1, bt221.2.2.2, true))))
def spec_l14Both.l1 : Nat → Bool → List (List Int) → List Bool → List Int → List Int → Int → Int → Int → List Int → Int → Int → Int → List (List Int) → List Bool → Int → Int → List (List Int) → List Bool → Option (Int × Int × (List (List Int)) × List Bool × Bool)
 | 0, _, _, _, _, _, _, _, _, _, _, _, _, _, _, _, _, _, _ => none
 | k + 1, x2, x8, x9, x10, x11, x12, x13, x14, x15, x16, x204000, x204001, x204002, x204003, x205000, x205001, x205002, x205003 => if 0 ≤ x13 then (if x13 < (x204002.length : Int) then (if x16 < ((rd_L1 x204002 x13).length : Int) then (if 0 ≤ x16 then (if 0 ≤ x14 then (if x14 < (x205002.length : Int) then (if x16 < ((rd_L1 x205002 x14).length : Int) then (if 0 ≤ (wrap64 ((wrap64 ((rd (rd_L1 x204002 x13) x16) * (x205002.length : Int))) + (rd (rd_L1 x205002 x14) x16))) then (if (wrap64 ((wrap64 ((rd (rd_L1 x204002 x13) x16) * (x205002.length : Int))) + (rd (rd_L1 x205002 x14) x16))) < (x10.length : Int) then (if (rd x10 (wrap64 ((wrap64 ((rd (rd_L1 x204002 x13) x16) * (x205002.length : Int))) + (rd (rd_L1 x205002 x14) x16)))) = 0 then (if x11.length < 17592186044416 then ((some (x11 ++ [wrap64 ((wrap64 ((rd (rd_L1 x204002 x13) x16) * (x205002.length : Int))) + (rd (rd_L1 x205002 x14) x16))] : List Int)).bind fun y241 => ((some (x10.set ((wrap64 ((wrap64 ((rd (rd_L1 x204002 x13) x16) * (x205002.length : Int))) + (rd (rd_L1 x205002 x14) x16))) : Int).toNat (y241.length : Int) : List Int)).bind fun y244 => (if x15.length < 17592186044416 then (spec_l14Both.l1 k x2 x8 x9 y244 y241 x12 x13 x14 (x15 ++ [wrap64 ((rd y244 (wrap64 ((wrap64 ((rd (rd_L1 x204002 x13) x16) * (x205002.length : Int))) + (rd (rd_L1 x205002 x14) x16)))) - 1)]) (wrap64 (x16 + 1)) x204000 x204001 x204002 x204003 x205000 x205001 x205002 x205003) else (none)))) else (none)) else (if x15.length < 17592186044416 then (spec_l14Both.l1 k x2 x8 x9 x10 x11 x12 x13 x14 (x15 ++ [wrap64 ((rd x10 (wrap64 ((wrap64 ((rd (rd_L1 x204002 x13) x16) * (x205002.length : Int))) + (rd (rd_L1 x205002 x14) x16)))) - 1)]) (wrap64 (x16 + 1)) x204000 x204001 x204002 x204003 x205000 x205001 x205002 x205003) else (none))) else (none)) else (none)) else (none)) else (none)) else (none)) else (none)) else (if x8.length < 5864062014805 then ((some (x8 ++ [x15] : List (List Int))).bind fun y253 => (if x2 = true then (if x13 < (x204003.length : Int) then (if rdOf false x204003 x13 = true then (if x9.length < 140737488355328 then (spec_l14Both.l0 k x2 y253 (x9 ++ [true]) x10 x11 (wrap64 (x12 + 1)) x204000 x204001 x204002 x204003 x205000 x205001 x205002 x205003) else (none)) else (if 0 ≤ x14 then (if x14 < (x205003.length : Int) then (if x9.length < 140737488355328 then (spec_l14Both.l0 k x2 y253 (x9 ++ [rdOf false x205003 x14]) x10 x11 (wrap64 (x12 + 1)) x204000 x204001 x204002 x204003 x205000 x205001 x205002 x205003) else (none)) else (none)) else (none))) else (none)) else (if x13 < (x204003.length : Int) then (if rdOf false x204003 x13 = true then (if 0 ≤ x14 then (if x14 < (x205003.length : Int) then (if x9.length < 140737488355328 then (spec_l14Both.l0 k x2 y253 (x9 ++ [rdOf false x205003 x14]) x10 x11 (wrap64 (x12 + 1)) x204000 x204001 x204002 x204003 x205000 x205001 x205002 x205003) else (none)) else (none)) else (none)) else (if x9.length < 140737488355328 then (spec_l14Both.l0 k x2 y253 (x9 ++ [false]) x10 x11 (wrap64 (x12 + 1)) x204000 x204001 x204002 x204003 x205000 x205001 x205002 x205003) else (none))) else (none)))) else (none))) else (none)) else (none)
end
def spec_l14Both.f (k : Nat) (a0_0 : Int) (a0_1 : Int) (l0_2 : List (List Int)) (l0_3 : List Bool) (a1_0 : Int) (a1_1 : Int) (l1_2 : List (List Int)) (l1_3 : List Bool) (a2 : Bool) : Option (Int × Int × (List (List Int)) × List Bool × Bool) := (spec_IsRelation.f k a0_0 a0_1 l0_2 l0_3).bind fun t206 => (if t206 = true then ((spec_IsRelation.f k a1_0 a1_1 l1_2 l1_3).bind fun t207 => (if t207 = true then (if a0_0 = a1_0 then (spec_l14Both.j0 k a2 (a0_1 != a1_1) a0_0 a0_1 l0_2 l0_3 a1_0 a1_1 l1_2 l1_3) else (spec_l14Both.j0 k a2 true a0_0 a0_1 l0_2 l0_3 a1_0 a1_1 l1_2 l1_3)) else (spec_l14Both.j0 k a2 true a0_0 a0_1 l0_2 l0_3 a1_0 a1_1 l1_2 l1_3))) else (spec_l14Both.j0 k a2 true a0_0 a0_1 l0_2 l0_3 a1_0 a1_1 l1_2 l1_3))
/-! spec_BothRelations: function 20 -/
def spec_BothRelations.f (k : Nat) (a0_0 : Int) (a0_1 : Int) (l0_2 : List (List Int)) (l0_3 : List Bool) (a1_0 : Int) (a1_1 : Int) (l1_2 : List (List Int)) (l1_3 : List Bool) : Option (Int × Int × (List (List Int)) × List Bool × Bool) := (spec_l14Both.f k a0_0 a0_1 l0_2 l0_3 a1_0 a1_1 l1_2 l1_3 false).bind fun bt275 => (some (bt275.1, bt275.2.1, bt275.2.2.1, bt275.2.2.2.1, bt275.2.2.2.2))
/-! spec_IsInside: function 25 -/
def spec_IsInside.f (k : Nat) (a0_0 : Int) (a0_1 : Int) (l0_2 : List (List Int)) (l0_3 : List Bool) (a1_0 : Int) (a1_1 : Int) (l1_2 : List (List Int)) (l1_3 : List Bool) : Option (Bool) := (spec_BothRelations.f k a0_0 a0_1 l0_2 l0_3 a1_0 a1_1 l1_2 l1_3).bind fun bt328 => (if bt328.2.2.2.2 = true then ((spec_AreSameSets.f k bt328.1 bt328.2.1 bt328.2.2.1 bt328.2.2.2.1 a0_0 a0_1 l0_2 l0_3).bind fun t338 => (some t338)) else (some false))
/-! spec_EitherRelation: function 23 -/
def spec_EitherRelation.f (k : Nat) (a0_0 : Int) (a0_1 : Int) (l0_2 : List (List Int)) (l0_3 : List Bool) (a1_0 : Int) (a1_1 : Int) (l1_2 : List (List Int)) (l1_3 : List Bool) : Option (Int × Int × (List (List Int)) × List Bool × Bool) := (spec_l14Both.f k a0_0 a0_1 l0_2 l0_3 a1_0 a1_1 l1_2 l1_3 true).bind fun bt342 => (some (bt342.1, bt342.2.1, bt342.2.2.1, bt342.2.2.2.1, bt342.2.2.2.2))
/-! spec_ExistsTrack: function 32 -/
mutual
def spec_ExistsTrack.j0 : Nat → Int → Bool → Int → Int → List (List Int) → List Bool → Option (Int × Int × (List (List Int)) × List Bool × Bool)
 | 0, _, _, _, _, _, _ => none
 | k + 1, x1, x37, x360000, x360001, x360002, x360003 => if x37 = true then (some (0, 0, ([] : List (List Int)), ([] : List Bool), false)) else (spec_ExistsTrack.l0 k x1 (x360002.length : Int) (([0] : List Int)) 0 x360000 x360001 x360002 x360003)
def spec_ExistsTrack.l0 : Nat → Int → Int → List Int → Int → Int → Int → List (List Int) → List Bool → Option (Int × Int × (List (List Int)) × List Bool × Bool)
 | 0, _, _, _, _, _, _, _, _ => none
 | k + 1, x1, x6, x7, x8, x360000, x360001, x360002, x360003 => if x8 < (x7.length : Int) then (spec_ExistsTrack.l1 k x1 x6 x7 x8 0 x360000 x360001 x360002 x360003) else ((spec_l15Set.f k x6 x7).bind fun t373 => (spec_ExistsTrack.l2 k x1 x6 (([t373] : List (List Int))) (([] : List (List Int))) (([] : List Bool)) 0 x360000 x360001 x360002 x360003))
def spec_ExistsTrack.l1 : Nat → Int → Int → List Int → Int → Int → Int → Int → List (List Int) → List Bool → Option (Int × Int × (List (List Int)) × List Bool × Bool)
 | 0, _, _, _, _, _, _, _, _, _ => none
 | k + 1, x1, x6, x7, x8, x9, x360000, x360001, x360002, x360003 => if x9 < x360000 then (if 0 ≤ x8 then (if x8 < (x7.length : Int) then (if 0 ≤ (rd x7 x8) then (if (rd x7 x8) < (x360002.length : Int) then ((spec_l15Letter.f k x360000 x360001 0 x1 x9).bind fun t367 => (if 0 ≤ t367 then (if t367 < ((rd_L1 x360002 (rd x7 x8)).length : Int) then ((spec_l4Has.f k x7 (rd (rd_L1 x360002 (rd x7 x8)) t367)).bind fun t369 => (if t369 = true then (spec_ExistsTrack.l1 k x1 x6 x7 x8 (wrap64 (x9 + 1)) x360000 x360001 x360002 x360003) else (if x7.length < 17592186044416 then (spec_ExistsTrack.l1 k x1 x6 (x7 ++ [rd (rd_L1 x360002 (rd x7 x8)) t367]) x8 (wrap64 (x9 + 1)) x360000 x360001 x360002 x360003) else (none)))) else (none)) else (none))) else (none)) else (none)) else (none)) else (none)) else (spec_ExistsTrack.l0 k x1 x6 x7 (wrap64 (x8 + 1)) x360000 x360001 x360002 x360003)
def spec_ExistsTrack.l2 : Nat → Int → Int → List (List Int) → List (List Int) → List Bool → Int → Int → Int → List (List Int) → List Bool → Option (Int × Int × (List (List Int)) × List Bool × Bool)
 | 0, _, _, _, _, _, _, _, _, _, _ => none
 | k + 1, x1, x6, x11, x12, x13, x14, x360000, x360001, x360002, x360003 => if x14 < (x11.length : Int) then (if (x11.length : Int) > 400 then (some (0, 0, ([] : List (List Int)), ([] : List Bool), false)) else (spec_ExistsTrack.l3 k x1 x6 x11 x12 x13 x14 (([] : List Int)) 0 x360000 x360001 x360002 x360003)) else ((spec_l13Reduce.f k x360000 (wrap64 (x360001 - 1)) x12 x13).bind fun bt385 => (if (bt385.2.2.1.length : Int) > 48 then (some (0, 0, ([] : List (List Int)), ([] : List Bool), false)) else (some (bt385.1, bt385.2.1, bt385.2.2.1, bt385.2.2.2, true))))
def spec_ExistsTrack.l3 : Nat → Int → Int → List (List Int) → List (List Int) → List Bool → Int → List Int → Int → Int → Int → List (List Int) → List Bool → Option (Int × Int × (List (List Int)) × List Bool × Bool)
 | 0, _, _, _, _, _, _, _, _, _, _, _, _ => none
 | k + 1, x1, x6, x11, x12, x13, x14, x15, x16, x360000, x360001, x360002, x360003 => (spec_l13Letters.f k x360000 (wrap64 (x360001 - 1))).bind fun t397 => (if x16 < t397 then (if 0 ≤ x6 then (if (x6 : Int).toNat ≤ 35184372088832 then (spec_ExistsTrack.l4 k x1 x6 x11 x12 x13 x14 x15 x16 (List.replicate (x6 : Int).toNat 0) 0 x360000 x360001 x360002 x360003) else (none)) else (none)) else (if x12.length < 5864062014805 then (spec_ExistsTrack.l7 k x1 x6 x11 (x12 ++ [x15]) x13 x14 false 0 x360000 x360001 x360002 x360003) else (none)))
def spec_ExistsTrack.l4 : Nat → Int → Int → List (List Int) → List (List Int) → List Bool → Int → List Int → Int → List Int → Int → Int → Int → List (List Int) → List Bool → Option (Int × Int × (List (List Int)) × List Bool × Bool)
 | 0, _, _, _, _, _, _, _, _, _, _, _, _, _, _ => none
 | k + 1, x1, x6, x11, x12, x13, x14, x15, x16, x17, x18, x360000, x360001, x360002, x360003 => if x18 < x6 then (spec_ExistsTrack.l5 k x1 x6 x11 x12 x13 x14 x15 x16 x17 x18 0 x360000 x360001 x360002 x360003) else (spec_ExistsTrack.l6 k x1 x6 x11 x12 x13 x14 x15 x16 x17 (-1) 0 x360000 x360001 x360002 x360003)
def spec_ExistsTrack.l5 : Nat → Int → Int → List (List Int) → List (List Int) → List Bool → Int → List Int → Int → List Int → Int → Int → Int → Int → List (List Int) → List Bool → Option (Int × Int × (List (List Int)) × List Bool × Bool)
 | 0, _, _, _, _, _, _, _, _, _, _, _, _, _, _, _ => none
 | k + 1, x1, x6, x11, x12, x13, x14, x15, x16, x17, x18, x19, x360000, x360001, x360002, x360003 => if x19 < x360000 then (if 0 ≤ x14 then (if x14 < (x11.length : Int) then (if 0 ≤ x18 then (if x18 < ((rd_L1 x11 x14).length : Int) then (if (rd (rd_L1 x11 x14) x18) = 1 then (if x18 < (x360002.length : Int) then ((spec_l15Letter.f k x360000 x360001 x16 x1 x19).bind fun t404 => (if 0 ≤ t404 then (if t404 < ((rd_L1 x360002 x18).length : Int) then (if 0 ≤ (rd (rd_L1 x360002 x18) t404) then (if (rd (rd_L1 x360002 x18) t404) < (x17.length : Int) then (spec_ExistsTrack.l5 k x1 x6 x11 x12 x13 x14 x15 x16 (x17.set ((rd (rd_L1 x360002 x18) t404) : Int).toNat 1) x18 (wrap64 (x19 + 1)) x360000 x360001 x360002 x360003) else (none)) else (none)) else (none)) else (none))) else (none)) else (spec_ExistsTrack.l4 k x1 x6 x11 x12 x13 x14 x15 x16 x17 (wrap64 (x18 + 1)) x360000 x360001 x360002 x360003)) else (none)) else (none)) else (none)) else (none)) else (spec_ExistsTrack.l4 k x1 x6 x11 x12 x13 x14 x15 x16 x17 (wrap64 (x18 + 1)) x360000 x360001 x360002 x360003)
def spec_ExistsTrack.l6 : Nat → Int → Int → List (List Int) → List (List Int) → List Bool → Int → List Int → Int → List Int → Int → Int → Int → Int → List (List Int) → List Bool → Option (Int × Int × (List (List Int)) × List Bool × Bool)
 | 0, _, _, _, _, _, _, _, _, _, _, _, _, _, _, _ => none
 | k + 1, x1, x6, x11, x12, x13, x14, x15, x16, x17, x20, x21, x360000, x360001, x360002, x360003 => if x21 < (x11.length : Int) then (spec_ExistsTrack.j8 k x1 x6 x11 x12 x13 x14 x15 x16 x17 x20 x21 (decide (x20 < 0)) x360000 x360001 x360002 x360003) else (spec_ExistsTrack.j8 k x1 x6 x11 x12 x13 x14 x15 x16 x17 x20 x21 false x360000 x360001 x360002 x360003)
def spec_ExistsTrack.j8 : Nat → Int → Int → List (List Int) → List (List Int) → List Bool → Int → List Int → Int → List Int → Int → Int → Bool → Int → Int → List (List Int) → List Bool → Option (Int × Int × (List (List Int)) × List Bool × Bool)
 | 0, _, _, _, _, _, _, _, _, _, _, _, _, _, _, _, _ => none
 | k + 1, x1, x6, x11, x12, x13, x14, x15, x16, x17, x20, x21, x154, x360000, x360001, x360002, x360003 => if x154 = true then (if 0 ≤ x21 then (if x21 < (x11.length : Int) then ((spec_l3Same.f k (rd_L1 x11 x21) x17).bind fun t408 => (if t408 = true then (spec_ExistsTrack.l6 k x1 x6 x11 x12 x13 x14 x15 x16 x17 x21 (wrap64 (x21 + 1)) x360000 x360001 x360002 x360003) else (spec_ExistsTrack.l6 k x1 x6 x11 x12 x13 x14 x15 x16 x17 x20 (wrap64 (x21 + 1)) x360000 x360001 x360002 x360003))) else (none)) else (none)) else (if x20 < 0 then (if x11.length < 5864062014805 then (if x15.length < 17592186044416 then (spec_ExistsTrack.l3 k x1 x6 (x11 ++ [x17]) x12 x13 x14 (x15 ++ [(x11.length : Int)]) (wrap64 (x16 + 1)) x360000 x360001 x360002 x360003) else (none)) else (none)) else (if x15.length < 17592186044416 then (spec_ExistsTrack.l3 k x1 x6 x11 x12 x13 x14 (x15 ++ [x20]) (wrap64 (x16 + 1)) x360000 x360001 x360002 x360003) else (none)))
def spec_ExistsTrack.l7 : Nat → Int → Int → List (List Int) → List (List Int) → List Bool → Int → Bool → Int → Int → Int → List (List Int) → List Bool → Option (Int × Int × (List (List Int)) × List Bool × Bool)
 | 0, _, _, _, _, _, _, _, _, _, _, _, _ => none
 | k + 1, x1, x6, x11, x12, x13, x14, x22, x23, x360000, x360001, x360002, x360003 => if x23 < x6 then (if x22 = true then (spec_ExistsTrack.l7 k x1 x6 x11 x12 x13 x14 true (wrap64 (x23 + 1)) x360000 x360001 x360002 x360003) else (if 0 ≤ x14 then (if x14 < (x11.length : Int) then (if 0 ≤ x23 then (if x23 < ((rd_L1 x11 x14).length : Int) then (if (rd (rd_L1 x11 x14) x23) = 1 then (if x23 < (x360003.length : Int) then (spec_ExistsTrack.l7 k x1 x6 x11 x12 x13 x14 (rdOf false x360003 x23) (wrap64 (x23 + 1)) x360000 x360001 x360002 x360003) else (none)) else (spec_ExistsTrack.l7 k x1 x6 x11 x12 x13 x14 false (wrap64 (x23 + 1)) x360000 x360001 x360002 x360003)) else (none)) else (none)) else (none)) else (none))) else (if x13.length < 140737488355328 then (spec_ExistsTrack.l2 k x1 x6 x11 x12 (x13 ++ [x22]) (wrap64 (x14 + 1)) x360000 x360001 x360002 x360003) else (none))
end
def spec_ExistsTrack.f (k : Nat) (a0_0 : Int) (a0_1 : Int) (l0_2 : List (List Int)) (l0_3 : List Bool) (a1 : Int) : Option (Int × Int × (List (List Int)) × List Bool × Bool) := (spec_IsRelation.f k a0_0 a0_1 l0_2 l0_3).bind fun t361 => (if t361 = true then (if a1 < 0 then (spec_ExistsTrack.j0 k a1 true a0_0 a0_1 l0_2 l0_3) else (spec_ExistsTrack.j0 k a1 (decide (a1 ≥ a0_1)) a0_0 a0_1 l0_2 l0_3)) else (spec_ExistsTrack.j0 k a1 true a0_0 a0_1 l0_2 l0_3))
/-! spec_AllTrack: function 34 -/
def spec_AllTrack.f (k : Nat) (a0_0 : Int) (a0_1 : Int) (l0_2 : List (List Int)) (l0_3 : List Bool) (a1 : Int) : Option (Int × Int × (List (List Int)) × List Bool × Bool) := (spec_NotRelation.f k a0_0 a0_1 l0_2 l0_3).bind fun bt472 => ((spec_ExistsTrack.f k bt472.1 bt472.2.1 bt472.2.2.1 bt472.2.2.2.1 a1).bind fun bt482 => ((spec_NotRelation.f k bt482.1 bt482.2.1 bt482.2.2.1 bt482.2.2.2.1).bind fun bt492 => (if bt472.2.2.2.2 = true then (if bt482.2.2.2.2 = true then (if bt492.2.2.2.2 = true then (some (bt492.1, bt492.2.1, bt492.2.2.1, bt492.2.2.2.1, true)) else (some (0, 0, ([] : List (List Int)), ([] : List Bool), false))) else (some (0, 0, ([] : List (List Int)), ([] : List Bool), false))) else (some (0, 0, ([] : List (List Int)), ([] : List Bool), false)))))
end Go.Proofs.Ytmkeicahnnlalaa.Q
