/- The functions of the program and of the reference, as plain functions -/
import Derived.Test.YtefelghmmpmigaaQ0
import Derived.Test.YtefelghmmpmigaaQ20
import Derived.Test.YtefelghmmpmigaaQ23
import Derived.Test.YtefelghmmpmigaaQ24
import Derived.Test.YtefelghmmpmigaaQ25
import Derived.Test.YtefelghmmpmigaaQ26
import Derived.Test.YtefelghmmpmigaaQ74
-- the functions of the program, as plain functions; written by a program of this session
namespace Go.Proofs.Ytefelghmmpmigaa.Q
open Go.RowKit Go.Proofs.YtefelghmmpmigaaW.PrintWords Go.Proofs.YtefelghmmpmigaaW.PrintLast Go.Proofs.YtefelghmmpmigaaW.PrintMore
set_option linter.unusedVariables false
/-! spec_l1In: function 33 -/
def spec_l1In.f (a0 : Int) (a1 : Int) (a2 : Int) : Option (Bool) := if a0 ≥ a1 then (some (decide (a0 ≤ a2))) else (some false)
/-! spec_IsSequence: function 85 -/
mutual
def spec_IsSequence.l0 : Nat → Int → Int → List (List Int) → List Int → Option (Bool)
 | 0, _, _, _, _ => none
 | k + 1, x3, x107000, x107001, x107002 => if x3 < (x107001.length : Int) then (if 0 ≤ x3 then (if ((rd_L1 x107001 x3).length : Int) = x107000 then (spec_IsSequence.l1 k x3 0 x107000 x107001 x107002) else (some false)) else (none)) else (spec_IsSequence.l2 k 0 x107000 x107001 x107002)
def spec_IsSequence.l1 : Nat → Int → Int → Int → List (List Int) → List Int → Option (Bool)
 | 0, _, _, _, _, _ => none
 | k + 1, x3, x4, x107000, x107001, x107002 => if 0 ≤ x3 then (if x3 < (x107001.length : Int) then (if x4 < ((rd_L1 x107001 x3).length : Int) then (if 0 ≤ x4 then (if (rd (rd_L1 x107001 x3) x4) < 0 then (some false) else (if (rd (rd_L1 x107001 x3) x4) ≥ (x107001.length : Int) then (some false) else (spec_IsSequence.l1 k x3 (wrap64 (x4 + 1)) x107000 x107001 x107002))) else (none)) else (spec_IsSequence.l0 k (wrap64 (x3 + 1)) x107000 x107001 x107002)) else (none)) else (none)
def spec_IsSequence.l2 : Nat → Int → Int → List (List Int) → List Int → Option (Bool)
 | 0, _, _, _, _ => none
 | k + 1, x5, x107000, x107001, x107002 => if x5 < (x107002.length : Int) then (if 0 ≤ x5 then ((spec_l1In.f (rd x107002 x5) 0 3).bind fun t114 => (if t114 = true then (spec_IsSequence.l2 k (wrap64 (x5 + 1)) x107000 x107001 x107002) else (some false))) else (none)) else ((spec_l1In.f x107000 2 4).bind fun t115 => (if t115 = true then ((spec_l1In.f (x107001.length : Int) 1 16).bind fun t116 => (if t116 = true then (some ((x107002.length : Int) == (x107001.length : Int))) else (some false))) else (some false)))
end
def spec_IsSequence.f (k : Nat) (a0_0 : Int) (l0_1 : List (List Int)) (l0_2 : List Int) : Option (Bool) := spec_IsSequence.l0 k 0 a0_0 l0_1 l0_2
/-! spec_IsSteady: function 86 -/
def spec_IsSteady.f (k : Nat) (a0_0 : Int) (l0_1 : List (List Int)) (l0_2 : List Int) : Option (Bool) := (spec_IsSequence.f k a0_0 l0_1 l0_2).bind fun t118 => (if t118 = true then (if 0 < (l0_1.length : Int) then (if 0 < ((rd_L1 l0_1 0).length : Int) then (some ((rd (rd_L1 l0_1 0) 0) == 0)) else (none)) else (none)) else (some false))
/-! spec_l3Copy: function 87 -/
def spec_l3Copy.l0 : Nat → Int → Int → List (List Int) → List Int → Int → List (List Int) → List Int → Option (Int × (List (List Int)) × List Int)
 | 0, _, _, _, _, _, _, _ => none
 | k + 1, x4, x122000, x122001, x122002, x130000, x130001, x130002 => if x4 < (x122001.length : Int) then ((some (([] : List Int) : List Int)).bind fun y130 => (if 0 ≤ x4 then (if y130.length + (rd_L1 x122001 x4).length < 17592186044416 then (if x130001.length < 5864062014805 then (spec_l3Copy.l0 k (wrap64 (x4 + 1)) x122000 x122001 x122002 x130000 (x130001 ++ [(y130 ++ (rd_L1 x122001 x4))]) x130002) else (none)) else (none)) else (none))) else (some (x130000, x130001, x130002))
def spec_l3Copy.f (k : Nat) (a0_0 : Int) (l0_1 : List (List Int)) (l0_2 : List Int) : Option (Int × (List (List Int)) × List Int) := (some (([] : List Int) : List Int)).bind fun y123 => (if y123.length + l0_2.length < 17592186044416 then (spec_l3Copy.l0 k 0 a0_0 l0_1 l0_2 a0_0 ([] : List (List Int)) (y123 ++ l0_2)) else (none))
/-! spec_SteadyForm: function 68 -/
mutual
def spec_SteadyForm.j0 : Nat → Bool → Int → List (List Int) → List Int → Option (Int × (List (List Int)) × List Int × Bool)
 | 0, _, _, _, _ => none
 | k + 1, x23, x141000, x141001, x141002 => if x23 = true then (some (0, ([] : List (List Int)), ([] : List Int), false)) else ((spec_IsSteady.f k x141000 x141001 x141002).bind fun t144 => (if t144 = true then ((spec_l3Copy.f k x141000 x141001 x141002).bind fun bt145 => (some (bt145.1, bt145.2.1, bt145.2.2, true))) else (if 0 < (x141002.length : Int) then ((some (([rd x141002 0] : List Int) : List Int)).bind fun y153 => (if y153.length + x141002.length < 17592186044416 then (spec_SteadyForm.l0 k (([0] : List Int)) 1 x141000 x141001 x141002 x141000 (y153 ++ x141002)) else (none))) else (none))))
def spec_SteadyForm.l0 : Nat → List Int → Int → Int → List (List Int) → List Int → Int → List Int → Option (Int × (List (List Int)) × List Int × Bool)
 | 0, _, _, _, _, _, _, _ => none
 | k + 1, x5, x6, x141000, x141001, x141002, x160000, x160002 => if x6 < x141000 then (if 0 < (x141001.length : Int) then (if 0 ≤ x6 then (if x6 < ((rd_L1 x141001 0).length : Int) then (if x5.length < 17592186044416 then (spec_SteadyForm.l0 k (x5 ++ [wrap64 ((rd (rd_L1 x141001 0) x6) + 1)]) (wrap64 (x6 + 1)) x141000 x141001 x141002 x160000 x160002) else (none)) else (none)) else (none)) else (none)) else (if ([] : List (List Int)).length < 5864062014805 then (spec_SteadyForm.l1 k 0 x141000 x141001 x141002 x160000 (([] : List (List Int)) ++ [x5]) x160002) else (none))
def spec_SteadyForm.l1 : Nat → Int → Int → List (List Int) → List Int → Int → List (List Int) → List Int → Option (Int × (List (List Int)) × List Int × Bool)
 | 0, _, _, _, _, _, _, _ => none
 | k + 1, x7, x141000, x141001, x141002, x160000, x160001, x160002 => if x7 < (x141001.length : Int) then (spec_SteadyForm.l2 k x7 (([] : List Int)) 0 x141000 x141001 x141002 x160000 x160001 x160002) else (some (x160000, x160001, x160002, true))
def spec_SteadyForm.l2 : Nat → Int → List Int → Int → Int → List (List Int) → List Int → Int → List (List Int) → List Int → Option (Int × (List (List Int)) × List Int × Bool)
 | 0, _, _, _, _, _, _, _, _, _ => none
 | k + 1, x7, x8, x9, x141000, x141001, x141002, x160000, x160001, x160002 => if x9 < x141000 then (if 0 ≤ x7 then (if x7 < (x141001.length : Int) then (if 0 ≤ x9 then (if x9 < ((rd_L1 x141001 x7).length : Int) then (if x8.length < 17592186044416 then (spec_SteadyForm.l2 k x7 (x8 ++ [wrap64 ((rd (rd_L1 x141001 x7) x9) + 1)]) (wrap64 (x9 + 1)) x141000 x141001 x141002 x160000 x160001 x160002) else (none)) else (none)) else (none)) else (none)) else (none)) else (if x160001.length < 5864062014805 then (spec_SteadyForm.l1 k (wrap64 (x7 + 1)) x141000 x141001 x141002 x160000 (x160001 ++ [x8]) x160002) else (none))
end
def spec_SteadyForm.f (k : Nat) (a0_0 : Int) (l0_1 : List (List Int)) (l0_2 : List Int) : Option (Int × (List (List Int)) × List Int × Bool) := (spec_IsSequence.f k a0_0 l0_1 l0_2).bind fun t142 => (if t142 = true then (if (l0_1.length : Int) ≥ 16 then ((spec_IsSteady.f k a0_0 l0_1 l0_2).bind fun t143 => (spec_SteadyForm.j0 k (!t143) a0_0 l0_1 l0_2)) else (spec_SteadyForm.j0 k false a0_0 l0_1 l0_2)) else (spec_SteadyForm.j0 k true a0_0 l0_1 l0_2))
/-! spec_l3Same: function 56 -/
def spec_l3Same.l0 : Nat → List Int → List Int → Int → Option (Bool)
 | 0, _, _, _ => none
 | k + 1, x0, x1, x5 => if x5 < (x0.length : Int) then (if 0 ≤ x5 then (if x5 < (x1.length : Int) then (if (rd x0 x5) = (rd x1 x5) then (spec_l3Same.l0 k x0 x1 (wrap64 (x5 + 1))) else (some false)) else (none)) else (none)) else (some true)
def spec_l3Same.f (k : Nat) (l0 : List Int) (l1 : List Int) : Option (Bool) := if (l0.length : Int) = (l1.length : Int) then (spec_l3Same.l0 k l0 l1 0) else (some false)
/-! spec_l4Number: function 77 -/
mutual
def spec_l4Number.l0 : Nat → List (List Int) → List Int → Int → Int → Option (List Int)
 | 0, _, _, _, _ => none
 | k + 1, x0, x3, x4, x5 => if x5 < (x0.length : Int) then (spec_l4Number.l1 k x0 x3 x4 x5 (-1) 0) else (some x3)
def spec_l4Number.l1 : Nat → List (List Int) → List Int → Int → Int → Int → Int → Option (List Int)
 | 0, _, _, _, _, _, _ => none
 | k + 1, x0, x3, x4, x5, x6, x7 => if x7 < x5 then (spec_l4Number.j2 k x0 x3 x4 x5 x6 x7 (decide (x6 < 0))) else (spec_l4Number.j2 k x0 x3 x4 x5 x6 x7 false)
def spec_l4Number.j2 : Nat → List (List Int) → List Int → Int → Int → Int → Int → Bool → Option (List Int)
 | 0, _, _, _, _, _, _, _ => none
 | k + 1, x0, x3, x4, x5, x6, x7, x21 => if x21 = true then (if 0 ≤ x7 then (if x7 < (x0.length : Int) then (if 0 ≤ x5 then (if x5 < (x0.length : Int) then ((spec_l3Same.f k (rd_L1 x0 x7) (rd_L1 x0 x5)).bind fun t189 => (if t189 = true then (if x7 < (x3.length : Int) then (spec_l4Number.l1 k x0 x3 x4 x5 (rd x3 x7) (wrap64 (x7 + 1))) else (none)) else (spec_l4Number.l1 k x0 x3 x4 x5 x6 (wrap64 (x7 + 1))))) else (none)) else (none)) else (none)) else (none)) else (if x6 < 0 then (if x3.length < 17592186044416 then (spec_l4Number.l0 k x0 (x3 ++ [x4]) (wrap64 (x4 + 1)) (wrap64 (x5 + 1))) else (none)) else (if x3.length < 17592186044416 then (spec_l4Number.l0 k x0 (x3 ++ [x6]) x4 (wrap64 (x5 + 1))) else (none)))
end
def spec_l4Number.f (k : Nat) (l0 : List (List Int)) : Option (List Int) := spec_l4Number.l0 k l0 (([] : List Int)) 0 0
/-! spec_StateClasses: function 69 -/
mutual
def spec_StateClasses.l0 : Nat → List (List Int) → Int → Int → List (List Int) → List Int → Option (List Int)
 | 0, _, _, _, _, _ => none
 | k + 1, x3, x4, x198000, x198001, x198002 => if x4 < (x198002.length : Int) then (if 0 ≤ x4 then (if x3.length < 5864062014805 then (spec_StateClasses.l0 k (x3 ++ [(([rd x198002 x4] : List Int))]) (wrap64 (x4 + 1)) x198000 x198001 x198002) else (none)) else (none)) else ((spec_l4Number.f k x3).bind fun t212 => (spec_StateClasses.l1 k t212 0 x198000 x198001 x198002))
def spec_StateClasses.l1 : Nat → List Int → Int → Int → List (List Int) → List Int → Option (List Int)
 | 0, _, _, _, _, _ => none
 | k + 1, x5, x6, x198000, x198001, x198002 => if x6 < (x198001.length : Int) then (spec_StateClasses.l2 k (([] : List (List Int))) x5 x6 0 x198000 x198001 x198002) else (some x5)
def spec_StateClasses.l2 : Nat → List (List Int) → List Int → Int → Int → Int → List (List Int) → List Int → Option (List Int)
 | 0, _, _, _, _, _, _, _ => none
 | k + 1, x3, x5, x6, x7, x198000, x198001, x198002 => if x7 < (x198001.length : Int) then (if 0 ≤ x7 then (if x7 < (x5.length : Int) then (spec_StateClasses.l3 k x3 x5 x6 x7 (([rd x5 x7] : List Int)) 0 x198000 x198001 x198002) else (none)) else (none)) else ((spec_l4Number.f k x3).bind fun t218 => (spec_StateClasses.l1 k t218 (wrap64 (x6 + 1)) x198000 x198001 x198002))
def spec_StateClasses.l3 : Nat → List (List Int) → List Int → Int → Int → List Int → Int → Int → List (List Int) → List Int → Option (List Int)
 | 0, _, _, _, _, _, _, _, _, _ => none
 | k + 1, x3, x5, x6, x7, x8, x9, x198000, x198001, x198002 => if x9 < x198000 then (if 0 ≤ x7 then (if x7 < (x198001.length : Int) then (if 0 ≤ x9 then (if x9 < ((rd_L1 x198001 x7).length : Int) then (if 0 ≤ (rd (rd_L1 x198001 x7) x9) then (if (rd (rd_L1 x198001 x7) x9) < (x5.length : Int) then (if x8.length < 17592186044416 then (spec_StateClasses.l3 k x3 x5 x6 x7 (x8 ++ [rd x5 (rd (rd_L1 x198001 x7) x9)]) (wrap64 (x9 + 1)) x198000 x198001 x198002) else (none)) else (none)) else (none)) else (none)) else (none)) else (none)) else (none)) else (if x3.length < 5864062014805 then (spec_StateClasses.l2 k (x3 ++ [x8]) x5 x6 (wrap64 (x7 + 1)) x198000 x198001 x198002) else (none))
end
def spec_StateClasses.f (k : Nat) (a0_0 : Int) (l0_1 : List (List Int)) (l0_2 : List Int) : Option (List Int) := (spec_IsSequence.f k a0_0 l0_1 l0_2).bind fun t198 => (if t198 = true then (spec_StateClasses.l0 k (([] : List (List Int))) 0 a0_0 l0_1 l0_2) else (some (([] : List Int))))
/-! spec_MinimalForm: function 32 -/
mutual
def spec_MinimalForm.l0 : Nat → List Int → List Int → Int → Int → List (List Int) → List Int → Int → List (List Int) → List Int → Option (Int × (List (List Int)) × List Int × Bool)
 | 0, _, _, _, _, _, _, _, _, _ => none
 | k + 1, x6, x8, x9, x245000, x245001, x245002, x249000, x249001, x249002 => if x9 < (x8.length : Int) then (spec_MinimalForm.l1 k x6 x8 x9 (([] : List Int)) 0 x245000 x245001 x245002 x249000 x249001 x249002) else (some (x249000, x249001, x249002, true))
def spec_MinimalForm.l1 : Nat → List Int → List Int → Int → List Int → Int → Int → List (List Int) → List Int → Int → List (List Int) → List Int → Option (Int × (List (List Int)) × List Int × Bool)
 | 0, _, _, _, _, _, _, _, _, _, _, _ => none
 | k + 1, x6, x8, x9, x10, x11, x245000, x245001, x245002, x249000, x249001, x249002 => if x11 < x245000 then (if 0 ≤ x9 then (if x9 < (x8.length : Int) then (if 0 ≤ (rd x8 x9) then (if (rd x8 x9) < (x245001.length : Int) then (if 0 ≤ x11 then (if x11 < ((rd_L1 x245001 (rd x8 x9)).length : Int) then (spec_MinimalForm.l2 k x6 x8 x9 x10 x11 (rd (rd_L1 x245001 (rd x8 x9)) x11) (-1) 0 x245000 x245001 x245002 x249000 x249001 x249002) else (none)) else (none)) else (none)) else (none)) else (none)) else (none)) else (if x249001.length < 5864062014805 then (if 0 ≤ x9 then (if x9 < (x8.length : Int) then (if 0 ≤ (rd x8 x9) then (if (rd x8 x9) < (x245002.length : Int) then (if x249002.length < 17592186044416 then (spec_MinimalForm.l0 k x6 x8 (wrap64 (x9 + 1)) x245000 x245001 x245002 x249000 (x249001 ++ [x10]) (x249002 ++ [rd x245002 (rd x8 x9)])) else (none)) else (none)) else (none)) else (none)) else (none)) else (none))
def spec_MinimalForm.l2 : Nat → List Int → List Int → Int → List Int → Int → Int → Int → Int → Int → List (List Int) → List Int → Int → List (List Int) → List Int → Option (Int × (List (List Int)) × List Int × Bool)
 | 0, _, _, _, _, _, _, _, _, _, _, _, _, _, _ => none
 | k + 1, x6, x8, x9, x10, x11, x12, x13, x14, x245000, x245001, x245002, x249000, x249001, x249002 => if x14 < (x8.length : Int) then (spec_MinimalForm.j3 k x6 x8 x9 x10 x11 x12 x13 x14 (decide (x13 < 0)) x245000 x245001 x245002 x249000 x249001 x249002) else (spec_MinimalForm.j3 k x6 x8 x9 x10 x11 x12 x13 x14 false x245000 x245001 x245002 x249000 x249001 x249002)
def spec_MinimalForm.j3 : Nat → List Int → List Int → Int → List Int → Int → Int → Int → Int → Bool → Int → List (List Int) → List Int → Int → List (List Int) → List Int → Option (Int × (List (List Int)) × List Int × Bool)
 | 0, _, _, _, _, _, _, _, _, _, _, _, _, _, _, _ => none
 | k + 1, x6, x8, x9, x10, x11, x12, x13, x14, x60, x245000, x245001, x245002, x249000, x249001, x249002 => if x60 = true then (if 0 ≤ x14 then (if x14 < (x8.length : Int) then (if 0 ≤ (rd x8 x14) then (if (rd x8 x14) < (x6.length : Int) then (if 0 ≤ x12 then (if x12 < (x6.length : Int) then (if (rd x6 (rd x8 x14)) = (rd x6 x12) then (spec_MinimalForm.l2 k x6 x8 x9 x10 x11 x12 x14 (wrap64 (x14 + 1)) x245000 x245001 x245002 x249000 x249001 x249002) else (spec_MinimalForm.l2 k x6 x8 x9 x10 x11 x12 x13 (wrap64 (x14 + 1)) x245000 x245001 x245002 x249000 x249001 x249002)) else (none)) else (none)) else (none)) else (none)) else (none)) else (none)) else (if x13 < 0 then (if x8.length < 17592186044416 then (if x10.length < 17592186044416 then (spec_MinimalForm.l1 k x6 (x8 ++ [x12]) x9 (x10 ++ [(x8.length : Int)]) (wrap64 (x11 + 1)) x245000 x245001 x245002 x249000 x249001 x249002) else (none)) else (none)) else (if x10.length < 17592186044416 then (spec_MinimalForm.l1 k x6 x8 x9 (x10 ++ [x13]) (wrap64 (x11 + 1)) x245000 x245001 x245002 x249000 x249001 x249002) else (none)))
end
def spec_MinimalForm.f (k : Nat) (a0_0 : Int) (l0_1 : List (List Int)) (l0_2 : List Int) : Option (Int × (List (List Int)) × List Int × Bool) := (spec_SteadyForm.f k a0_0 l0_1 l0_2).bind fun bt236 => (if bt236.2.2.2 = true then ((spec_StateClasses.f k bt236.1 bt236.2.1 bt236.2.2.1).bind fun t245 => (spec_MinimalForm.l0 k t245 (([0] : List Int)) 0 bt236.1 bt236.2.1 bt236.2.2.1 bt236.1 ([] : List (List Int)) ([] : List Int))) else (some (0, ([] : List (List Int)), ([] : List Int), false)))
/-! impl_isBase: function 96 -/
def impl_isBase.f (a0 : Int) : Option (Bool) := if a0 ≥ 2 then (some (decide (a0 ≤ 4))) else (some false)
/-! impl_IsSequence: function 88 -/
mutual
def impl_IsSequence.j0 : Nat → Int → Bool → Int → List (List Int) → List Int → Option (Bool)
 | 0, _, _, _, _, _ => none
 | k + 1, x3, x29, x329000, x329001, x329002 => if x29 = true then (some false) else (impl_IsSequence.l0 k x3 x329001 (x329001.length : Int) 0 x329000 x329001 x329002)
def impl_IsSequence.l0 : Nat → Int → List (List Int) → Int → Int → Int → List (List Int) → List Int → Option (Bool)
 | 0, _, _, _, _, _, _, _ => none
 | k + 1, x3, x31, x32, x33, x329000, x329001, x329002 => if x33 < x32 then (if 0 ≤ x33 then (if x33 < (x31.length : Int) then (if ((rd_L1 x31 x33).length : Int) = x329000 then (if x33 < (x329002.length : Int) then (if (rd x329002 x33) < 0 then (impl_IsSequence.j2 k x3 (rd_L1 x31 x33) x31 x32 x33 true x329000 x329001 x329002) else (impl_IsSequence.j2 k x3 (rd_L1 x31 x33) x31 x32 x33 (decide ((rd x329002 x33) > 3)) x329000 x329001 x329002)) else (none)) else (impl_IsSequence.j2 k x3 (rd_L1 x31 x33) x31 x32 x33 true x329000 x329001 x329002)) else (none)) else (none)) else (some true)
def impl_IsSequence.j2 : Nat → Int → List Int → List (List Int) → Int → Int → Bool → Int → List (List Int) → List Int → Option (Bool)
 | 0, _, _, _, _, _, _, _, _, _ => none
 | k + 1, x3, x5, x31, x32, x33, x58, x329000, x329001, x329002 => if x58 = true then (some false) else (impl_IsSequence.l1 k x3 x31 x32 x33 x5 (x5.length : Int) 0 x329000 x329001 x329002)
def impl_IsSequence.l1 : Nat → Int → List (List Int) → Int → Int → List Int → Int → Int → Int → List (List Int) → List Int → Option (Bool)
 | 0, _, _, _, _, _, _, _, _, _, _ => none
 | k + 1, x3, x31, x32, x33, x59, x60, x61, x329000, x329001, x329002 => if x61 < x60 then (if 0 ≤ x61 then (if x61 < (x59.length : Int) then (if (rd x59 x61) < 0 then (some false) else (if (rd x59 x61) ≥ x3 then (some false) else (impl_IsSequence.l1 k x3 x31 x32 x33 x59 x60 (wrap64 (x61 + 1)) x329000 x329001 x329002))) else (none)) else (none)) else (impl_IsSequence.l0 k x3 x31 x32 (wrap64 (x33 + 1)) x329000 x329001 x329002)
end
def impl_IsSequence.f (k : Nat) (a0_0 : Int) (l0_1 : List (List Int)) (l0_2 : List Int) : Option (Bool) := (impl_isBase.f a0_0).bind fun t329 => (if t329 = true then (if (l0_1.length : Int) < 1 then (impl_IsSequence.j0 k (l0_1.length : Int) true a0_0 l0_1 l0_2) else (if (l0_1.length : Int) > 16 then (impl_IsSequence.j0 k (l0_1.length : Int) true a0_0 l0_1 l0_2) else (impl_IsSequence.j0 k (l0_1.length : Int) ((l0_2.length : Int) != (l0_1.length : Int)) a0_0 l0_1 l0_2))) else (impl_IsSequence.j0 k (l0_1.length : Int) true a0_0 l0_1 l0_2))
/-! impl_IsSteady: function 89 -/
def impl_IsSteady.f (k : Nat) (a0_0 : Int) (l0_1 : List (List Int)) (l0_2 : List Int) : Option (Bool) := (impl_IsSequence.f k a0_0 l0_1 l0_2).bind fun t335 => (if t335 = true then (if 0 < (l0_1.length : Int) then (if 0 < ((rd_L1 l0_1 0).length : Int) then (some ((rd (rd_L1 l0_1 0) 0) == 0)) else (none)) else (none)) else (some false))
/-! impl_Sequence_own: function 90 -/
def impl_Sequence_own.l0 : Nat → List (List Int) → Int → Int → Int → List (List Int) → List Int → Option (Int × (List (List Int)) × List Int)
 | 0, _, _, _, _, _, _ => none
 | k + 1, x13, x14, x15, x350000, x350001, x350002 => if x15 < x14 then (if 0 ≤ x15 then (if x15 < (x13.length : Int) then ((slices_Clone_int_int.f (rd_L1 x13 x15)).bind fun t351 => (if x350001.length < 5864062014805 then (impl_Sequence_own.l0 k x13 x14 (wrap64 (x15 + 1)) x350000 (x350001 ++ [t351]) x350002) else (none))) else (none)) else (none)) else (some (x350000, x350001, x350002))
def impl_Sequence_own.f (k : Nat) (a0_0 : Int) (l0_1 : List (List Int)) (l0_2 : List Int) : Option (Int × (List (List Int)) × List Int) := (slices_Clone_int_int.f l0_2).bind fun t346 => (impl_Sequence_own.l0 k l0_1 (l0_1.length : Int) 0 a0_0 ([] : List (List Int)) t346)
/-! impl_isSmallBase: function 37 -/
def impl_isSmallBase.f (a0 : Int) : Option (Bool) := if a0 = 2 then (some true) else (some (a0 == 3))
/-! impl_isTerm: function 38 -/
def impl_isTerm.f (a0 : Int) : Option (Bool) := if a0 ≥ 0 then (some (decide (a0 ≤ 3))) else (some false)
/-! spec_l11Power: function 76 -/
def spec_l11Power.l0 : Nat → Int → Int → Int → Int → Option (Int)
 | 0, _, _, _, _ => none
 | k + 1, x0, x1, x5, x6 => if x6 < x1 then (spec_l11Power.l0 k x0 x1 (wrap64 (x5 * x0)) (wrap64 (x6 + 1))) else (some x5)
def spec_l11Power.f (k : Nat) (a0 : Int) (a1 : Int) : Option (Int) := spec_l11Power.l0 k a0 a1 1 0
/-! spec_l13Letters: function 55 -/
def spec_l13Letters.f (k : Nat) (a0 : Int) (a1 : Int) : Option (Int) := (spec_l11Power.f k a0 a1).bind fun t477 => (some t477)
/-! spec_IsRelation: function 51 -/
mutual
def spec_IsRelation.j0 : Nat → Bool → Int → Int → List (List Int) → List Bool → Option (Bool)
 | 0, _, _, _, _, _ => none
 | k + 1, x30, x479000, x479001, x479002, x479003 => if x30 = true then (some false) else (spec_IsRelation.l0 k 0 x479000 x479001 x479002 x479003)
def spec_IsRelation.l0 : Nat → Int → Int → Int → List (List Int) → List Bool → Option (Bool)
 | 0, _, _, _, _, _ => none
 | k + 1, x3, x479000, x479001, x479002, x479003 => if x3 < (x479002.length : Int) then (if 0 ≤ x3 then ((spec_l13Letters.f k x479000 x479001).bind fun t485 => (if ((rd_L1 x479002 x3).length : Int) = t485 then (spec_IsRelation.l1 k x3 0 x479000 x479001 x479002 x479003) else (some false))) else (none)) else (if 0 < (x479002.length : Int) then (if 0 < ((rd_L1 x479002 0).length : Int) then (some ((rd (rd_L1 x479002 0) 0) == 0)) else (none)) else (none))
def spec_IsRelation.l1 : Nat → Int → Int → Int → Int → List (List Int) → List Bool → Option (Bool)
 | 0, _, _, _, _, _, _ => none
 | k + 1, x3, x4, x479000, x479001, x479002, x479003 => if 0 ≤ x3 then (if x3 < (x479002.length : Int) then (if x4 < ((rd_L1 x479002 x3).length : Int) then (if 0 ≤ x4 then (if (rd (rd_L1 x479002 x3) x4) < 0 then (some false) else (if (rd (rd_L1 x479002 x3) x4) ≥ (x479002.length : Int) then (some false) else (spec_IsRelation.l1 k x3 (wrap64 (x4 + 1)) x479000 x479001 x479002 x479003))) else (none)) else (spec_IsRelation.l0 k (wrap64 (x3 + 1)) x479000 x479001 x479002 x479003)) else (none)) else (none)
end
def spec_IsRelation.f (k : Nat) (a0_0 : Int) (a0_1 : Int) (l0_2 : List (List Int)) (l0_3 : List Bool) : Option (Bool) := (spec_l1In.f a0_0 2 3).bind fun t479 => (if t479 = true then ((spec_l1In.f a0_1 0 3).bind fun t480 => (if t480 = true then ((spec_l1In.f (l0_2.length : Int) 1 48).bind fun t481 => (if t481 = true then (spec_IsRelation.j0 k ((l0_3.length : Int) != (l0_2.length : Int)) a0_0 a0_1 l0_2 l0_3) else (spec_IsRelation.j0 k true a0_0 a0_1 l0_2 l0_3))) else (spec_IsRelation.j0 k true a0_0 a0_1 l0_2 l0_3))) else (spec_IsRelation.j0 k true a0_0 a0_1 l0_2 l0_3))
/-! spec_l13Reduce: function 57 -/
mutual
def spec_l13Reduce.l0 : Nat → Int → Int → List (List Int) → List Bool → List (List Int) → Int → Option (Int × Int × (List (List Int)) × List Bool)
 | 0, _, _, _, _, _, _ => none
 | k + 1, x0, x1, x2, x3, x9, x10 => if x10 < (x3.length : Int) then (if 0 ≤ x10 then (if rdOf false x3 x10 = true then (if x9.length < 5864062014805 then (spec_l13Reduce.l0 k x0 x1 x2 x3 (x9 ++ [(([1] : List Int))]) (wrap64 (x10 + 1))) else (none)) else (if x9.length < 5864062014805 then (spec_l13Reduce.l0 k x0 x1 x2 x3 (x9 ++ [(([0] : List Int))]) (wrap64 (x10 + 1))) else (none))) else (none)) else ((spec_l4Number.f k x9).bind fun t508 => (spec_l13Reduce.l1 k x0 x1 x2 x3 t508 0))
def spec_l13Reduce.l1 : Nat → Int → Int → List (List Int) → List Bool → List Int → Int → Option (Int × Int × (List (List Int)) × List Bool)
 | 0, _, _, _, _, _, _ => none
 | k + 1, x0, x1, x2, x3, x11, x12 => if x12 < (x2.length : Int) then (spec_l13Reduce.l2 k x0 x1 x2 x3 (([] : List (List Int))) x11 x12 0) else (spec_l13Reduce.l4 k x2 x3 x11 (([0] : List Int)) 0 x0 x1 ([] : List (List Int)) ([] : List Bool))
def spec_l13Reduce.l2 : Nat → Int → Int → List (List Int) → List Bool → List (List Int) → List Int → Int → Int → Option (Int × Int × (List (List Int)) × List Bool)
 | 0, _, _, _, _, _, _, _, _ => none
 | k + 1, x0, x1, x2, x3, x9, x11, x12, x13 => if x13 < (x2.length : Int) then (if 0 ≤ x13 then (if x13 < (x11.length : Int) then (spec_l13Reduce.l3 k x0 x1 x2 x3 x9 x11 x12 x13 (([rd x11 x13] : List Int)) 0) else (none)) else (none)) else ((spec_l4Number.f k x9).bind fun t528 => ((spec_l3Same.f k t528 x11).bind fun t531 => (if t531 = true then (spec_l13Reduce.l1 k x0 x1 x2 x3 t528 (wrap64 ((x2.length : Int) + 1))) else (spec_l13Reduce.l1 k x0 x1 x2 x3 t528 (wrap64 (x12 + 1))))))
def spec_l13Reduce.l3 : Nat → Int → Int → List (List Int) → List Bool → List (List Int) → List Int → Int → Int → List Int → Int → Option (Int × Int × (List (List Int)) × List Bool)
 | 0, _, _, _, _, _, _, _, _, _, _ => none
 | k + 1, x0, x1, x2, x3, x9, x11, x12, x13, x14, x15 => if 0 ≤ x13 then (if x13 < (x2.length : Int) then (if x15 < ((rd_L1 x2 x13).length : Int) then (if 0 ≤ x15 then (if 0 ≤ (rd (rd_L1 x2 x13) x15) then (if (rd (rd_L1 x2 x13) x15) < (x11.length : Int) then (if x14.length < 17592186044416 then (spec_l13Reduce.l3 k x0 x1 x2 x3 x9 x11 x12 x13 (x14 ++ [rd x11 (rd (rd_L1 x2 x13) x15)]) (wrap64 (x15 + 1))) else (none)) else (none)) else (none)) else (none)) else (if x9.length < 5864062014805 then (spec_l13Reduce.l2 k x0 x1 x2 x3 (x9 ++ [x14]) x11 x12 (wrap64 (x13 + 1))) else (none))) else (none)) else (none)
def spec_l13Reduce.l4 : Nat → List (List Int) → List Bool → List Int → List Int → Int → Int → Int → List (List Int) → List Bool → Option (Int × Int × (List (List Int)) × List Bool)
 | 0, _, _, _, _, _, _, _, _, _ => none
 | k + 1, x2, x3, x11, x18, x19, x533000, x533001, x533002, x533003 => if x19 < (x18.length : Int) then (spec_l13Reduce.l5 k x2 x3 x11 x18 x19 (([] : List Int)) 0 x533000 x533001 x533002 x533003) else (some (x533000, x533001, x533002, x533003))
def spec_l13Reduce.l5 : Nat → List (List Int) → List Bool → List Int → List Int → Int → List Int → Int → Int → Int → List (List Int) → List Bool → Option (Int × Int × (List (List Int)) × List Bool)
 | 0, _, _, _, _, _, _, _, _, _, _, _ => none
 | k + 1, x2, x3, x11, x18, x19, x20, x21, x533000, x533001, x533002, x533003 => if 0 ≤ x19 then (if x19 < (x18.length : Int) then (if 0 ≤ (rd x18 x19) then (if (rd x18 x19) < (x2.length : Int) then (if x21 < ((rd_L1 x2 (rd x18 x19)).length : Int) then (if 0 ≤ x21 then (spec_l13Reduce.l6 k x2 x3 x11 x18 x19 x20 x21 (rd (rd_L1 x2 (rd x18 x19)) x21) (-1) 0 x533000 x533001 x533002 x533003) else (none)) else (if x533002.length < 5864062014805 then (if (rd x18 x19) < (x3.length : Int) then (if x533003.length < 140737488355328 then (spec_l13Reduce.l4 k x2 x3 x11 x18 (wrap64 (x19 + 1)) x533000 x533001 (x533002 ++ [x20]) (x533003 ++ [rdOf false x3 (rd x18 x19)])) else (none)) else (none)) else (none))) else (none)) else (none)) else (none)) else (none)
def spec_l13Reduce.l6 : Nat → List (List Int) → List Bool → List Int → List Int → Int → List Int → Int → Int → Int → Int → Int → Int → List (List Int) → List Bool → Option (Int × Int × (List (List Int)) × List Bool)
 | 0, _, _, _, _, _, _, _, _, _, _, _, _, _, _ => none
 | k + 1, x2, x3, x11, x18, x19, x20, x21, x22, x23, x24, x533000, x533001, x533002, x533003 => if x24 < (x18.length : Int) then (spec_l13Reduce.j7 k x2 x3 x11 x18 x19 x20 x21 x22 x23 x24 (decide (x23 < 0)) x533000 x533001 x533002 x533003) else (spec_l13Reduce.j7 k x2 x3 x11 x18 x19 x20 x21 x22 x23 x24 false x533000 x533001 x533002 x533003)
def spec_l13Reduce.j7 : Nat → List (List Int) → List Bool → List Int → List Int → Int → List Int → Int → Int → Int → Int → Bool → Int → Int → List (List Int) → List Bool → Option (Int × Int × (List (List Int)) × List Bool)
 | 0, _, _, _, _, _, _, _, _, _, _, _, _, _, _, _ => none
 | k + 1, x2, x3, x11, x18, x19, x20, x21, x22, x23, x24, x138, x533000, x533001, x533002, x533003 => if x138 = true then (if 0 ≤ x24 then (if x24 < (x18.length : Int) then (if 0 ≤ (rd x18 x24) then (if (rd x18 x24) < (x11.length : Int) then (if 0 ≤ x22 then (if x22 < (x11.length : Int) then (if (rd x11 (rd x18 x24)) = (rd x11 x22) then (spec_l13Reduce.l6 k x2 x3 x11 x18 x19 x20 x21 x22 x24 (wrap64 (x24 + 1)) x533000 x533001 x533002 x533003) else (spec_l13Reduce.l6 k x2 x3 x11 x18 x19 x20 x21 x22 x23 (wrap64 (x24 + 1)) x533000 x533001 x533002 x533003)) else (none)) else (none)) else (none)) else (none)) else (none)) else (none)) else (if x23 < 0 then (if x18.length < 17592186044416 then (if x20.length < 17592186044416 then (spec_l13Reduce.l5 k x2 x3 x11 (x18 ++ [x22]) x19 (x20 ++ [(x18.length : Int)]) (wrap64 (x21 + 1)) x533000 x533001 x533002 x533003) else (none)) else (none)) else (if x20.length < 17592186044416 then (spec_l13Reduce.l5 k x2 x3 x11 x18 x19 (x20 ++ [x23]) (wrap64 (x21 + 1)) x533000 x533001 x533002 x533003) else (none)))
end
def spec_l13Reduce.f (k : Nat) (a0 : Int) (a1 : Int) (l2 : List (List Int)) (l3 : List Bool) : Option (Int × Int × (List (List Int)) × List Bool) := spec_l13Reduce.l0 k a0 a1 l2 l3 (([] : List (List Int))) 0
/-! impl_power: function 60 -/
def impl_power.l0 : Nat → Int → Int → Int → Int → Option (Int)
 | 0, _, _, _, _ => none
 | k + 1, x0, x5, x6, x7 => if x7 < x6 then (impl_power.l0 k x0 (wrap64 (x5 * x0)) x6 (wrap64 (x7 + 1))) else (some x5)
def impl_power.f (k : Nat) (a0 : Int) (a1 : Int) : Option (Int) := impl_power.l0 k a0 1 a1 0
/-! impl_IsRelation: function 58 -/
mutual
def impl_IsRelation.j0 : Nat → Int → Bool → Int → Int → List (List Int) → List Bool → Option (Bool)
 | 0, _, _, _, _, _, _ => none
 | k + 1, x3, x39, x651000, x651001, x651002, x651003 => if x39 = true then (some false) else (impl_IsRelation.l0 k x3 x651002 (x651002.length : Int) 0 x651000 x651001 x651002 x651003)
def impl_IsRelation.l0 : Nat → Int → List (List Int) → Int → Int → Int → Int → List (List Int) → List Bool → Option (Bool)
 | 0, _, _, _, _, _, _, _, _ => none
 | k + 1, x3, x41, x42, x43, x651000, x651001, x651002, x651003 => if x43 < x42 then (if 0 ≤ x43 then (if x43 < (x41.length : Int) then ((impl_power.f k x651000 x651001).bind fun t655 => (if ((rd_L1 x41 x43).length : Int) = t655 then (impl_IsRelation.l1 k x3 x41 x42 x43 (rd_L1 x41 x43) ((rd_L1 x41 x43).length : Int) 0 x651000 x651001 x651002 x651003) else (some false))) else (none)) else (none)) else (if 0 < (x651002.length : Int) then (if 0 < ((rd_L1 x651002 0).length : Int) then (some ((rd (rd_L1 x651002 0) 0) == 0)) else (none)) else (none))
def impl_IsRelation.l1 : Nat → Int → List (List Int) → Int → Int → List Int → Int → Int → Int → Int → List (List Int) → List Bool → Option (Bool)
 | 0, _, _, _, _, _, _, _, _, _, _, _ => none
 | k + 1, x3, x41, x42, x43, x55, x56, x57, x651000, x651001, x651002, x651003 => if x57 < x56 then (if 0 ≤ x57 then (if x57 < (x55.length : Int) then (if (rd x55 x57) < 0 then (some false) else (if (rd x55 x57) ≥ x3 then (some false) else (impl_IsRelation.l1 k x3 x41 x42 x43 x55 x56 (wrap64 (x57 + 1)) x651000 x651001 x651002 x651003))) else (none)) else (none)) else (impl_IsRelation.l0 k x3 x41 x42 (wrap64 (x43 + 1)) x651000 x651001 x651002 x651003)
end
def impl_IsRelation.f (k : Nat) (a0_0 : Int) (a0_1 : Int) (l0_2 : List (List Int)) (l0_3 : List Bool) : Option (Bool) := (impl_isSmallBase.f a0_0).bind fun t651 => (if t651 = true then (if a0_1 < 0 then (impl_IsRelation.j0 k (l0_2.length : Int) true a0_0 a0_1 l0_2 l0_3) else (if a0_1 > 3 then (impl_IsRelation.j0 k (l0_2.length : Int) true a0_0 a0_1 l0_2 l0_3) else (if (l0_2.length : Int) < 1 then (impl_IsRelation.j0 k (l0_2.length : Int) true a0_0 a0_1 l0_2 l0_3) else (if (l0_2.length : Int) > 48 then (impl_IsRelation.j0 k (l0_2.length : Int) true a0_0 a0_1 l0_2 l0_3) else (impl_IsRelation.j0 k (l0_2.length : Int) ((l0_3.length : Int) != (l0_2.length : Int)) a0_0 a0_1 l0_2 l0_3))))) else (impl_IsRelation.j0 k (l0_2.length : Int) true a0_0 a0_1 l0_2 l0_3))
/-! impl_oneIf: function 95 -/
def impl_oneIf.f (a0 : Bool) : Option (Int) := if a0 = true then (some 1) else (some 0)
/-! impl_Relation_reduced: function 81 -/
mutual
def impl_Relation_reduced.l0 : Nat → List Int → List Bool → Int → Int → Int → Int → List (List Int) → List Bool → Option (Int × Int × (List (List Int)) × List Bool)
 | 0, _, _, _, _, _, _, _, _ => none
 | k + 1, x3, x13, x14, x15, x658000, x658001, x658002, x658003 => if x15 < x14 then (if 0 ≤ x15 then (if x15 < (x13.length : Int) then ((impl_oneIf.f (rdOf false x13 x15)).bind fun t663 => (if x3.length < 17592186044416 then (impl_Relation_reduced.l0 k (x3 ++ [t663]) x13 x14 (wrap64 (x15 + 1)) x658000 x658001 x658002 x658003) else (none))) else (none)) else (none)) else ((impl_minimal.f k x658002 x3).bind fun bt667 => (impl_Relation_reduced.l1 k bt667.2 (bt667.2.length : Int) 0 x658000 x658001 bt667.1 ([] : List Bool)))
def impl_Relation_reduced.l1 : Nat → List Int → Int → Int → Int → Int → List (List Int) → List Bool → Option (Int × Int × (List (List Int)) × List Bool)
 | 0, _, _, _, _, _, _, _ => none
 | k + 1, x38, x39, x40, x674000, x674001, x674002, x674003 => if x40 < x39 then (if 0 ≤ x40 then (if x40 < (x38.length : Int) then (if x674003.length < 140737488355328 then (impl_Relation_reduced.l1 k x38 x39 (wrap64 (x40 + 1)) x674000 x674001 x674002 (x674003 ++ [((rd x38 x40) == 1)])) else (none)) else (none)) else (none)) else (some (x674000, x674001, x674002, x674003))
end
def impl_Relation_reduced.f (k : Nat) (a0_0 : Int) (a0_1 : Int) (l0_2 : List (List Int)) (l0_3 : List Bool) : Option (Int × Int × (List (List Int)) × List Bool) := impl_Relation_reduced.l0 k (([] : List Int)) l0_3 (l0_3.length : Int) 0 a0_0 a0_1 l0_2 l0_3
/-! impl_Relation_limited: function 62 -/
def impl_Relation_limited.f (k : Nat) (a0_0 : Int) (a0_1 : Int) (l0_2 : List (List Int)) (l0_3 : List Bool) : Option (Int × Int × (List (List Int)) × List Bool × Bool) := (impl_Relation_reduced.f k a0_0 a0_1 l0_2 l0_3).bind fun bt680 => (if (bt680.2.2.1.length : Int) > 48 then (some (0, 0, ([] : List (List Int)), ([] : List Bool), false)) else (some (bt680.1, bt680.2.1, bt680.2.2.1, bt680.2.2.2, true)))
/-! spec_l15Digit: function 75 -/
def spec_l15Digit.l0 : Nat → Int → Int → Int → Int → Option (Int)
 | 0, _, _, _, _ => none
 | k + 1, x0, x2, x3, x9 => if x9 > x3 then (if x0 = 0 then (none) else (spec_l15Digit.l0 k x0 (wrap64 (Int.tdiv x2 x0)) x3 (wrap64 (x9 - 1)))) else (if x0 = 0 then (none) else (some (Int.tmod x2 x0)))
def spec_l15Digit.f (k : Nat) (a0 : Int) (a1 : Int) (a2 : Int) (a3 : Int) : Option (Int) := spec_l15Digit.l0 k a0 a2 a3 (wrap64 (a1 - 1))
/-! spec_l15Letter: function 52 -/
def spec_l15Letter.l0 : Nat → Int → Int → Int → Int → Int → Int → Int → Int → Option (Int)
 | 0, _, _, _, _, _, _, _, _ => none
 | k + 1, x0, x1, x2, x3, x4, x11, x12, x13 => if x13 < x1 then (if x13 = x3 then (spec_l15Letter.l0 k x0 x1 x2 x3 x4 (wrap64 ((wrap64 (x11 * x0)) + x4)) x12 (wrap64 (x13 + 1))) else ((spec_l15Digit.f k x0 (wrap64 (x1 - 1)) x2 x12).bind fun t743 => (spec_l15Letter.l0 k x0 x1 x2 x3 x4 (wrap64 ((wrap64 (x11 * x0)) + t743)) (wrap64 (x12 + 1)) (wrap64 (x13 + 1))))) else (some x11)
def spec_l15Letter.f (k : Nat) (a0 : Int) (a1 : Int) (a2 : Int) (a3 : Int) (a4 : Int) : Option (Int) := spec_l15Letter.l0 k a0 a1 a2 a3 a4 0 0 0
/-! spec_l4Has: function 53 -/
def spec_l4Has.l0 : Nat → List Int → Int → Int → Option (Bool)
 | 0, _, _, _ => none
 | k + 1, x0, x1, x5 => if x5 < (x0.length : Int) then (if 0 ≤ x5 then (if (rd x0 x5) = x1 then (some true) else (spec_l4Has.l0 k x0 x1 (wrap64 (x5 + 1)))) else (none)) else (some false)
def spec_l4Has.f (k : Nat) (l0 : List Int) (a1 : Int) : Option (Bool) := spec_l4Has.l0 k l0 a1 0
/-! spec_l15Set: function 54 -/
def spec_l15Set.l0 : Nat → List Int → List Int → Int → Option (List Int)
 | 0, _, _, _ => none
 | k + 1, x1, x5, x6 => if x6 < (x1.length : Int) then (if 0 ≤ x6 then (if 0 ≤ (rd x1 x6) then (if (rd x1 x6) < (x5.length : Int) then (spec_l15Set.l0 k x1 (x5.set ((rd x1 x6) : Int).toNat 1) (wrap64 (x6 + 1))) else (none)) else (none)) else (none)) else (some x5)
def spec_l15Set.f (k : Nat) (a0 : Int) (l1 : List Int) : Option (List Int) := if 0 ≤ a0 then (if (a0 : Int).toNat ≤ 35184372088832 then (spec_l15Set.l0 k l1 (List.replicate (a0 : Int).toNat 0) 0) else (none)) else (none)
/-! slices_Reverse_int_int: function 99 -/
def slices_Reverse_int_int.l0 : Nat → List Int → Int → Int → Option (List Int)
 | 0, _, _, _ => none
 | k + 1, x0, x2, x3 => if x2 < x3 then (if 0 ≤ x3 then (if x3 < (x0.length : Int) then (if 0 ≤ x2 then (if x2 < (x0.length : Int) then (slices_Reverse_int_int.l0 k ((x0.set (x2 : Int).toNat (rd x0 x3)).set (x3 : Int).toNat (rd x0 x2)) (wrap64 (x2 + 1)) (wrap64 (x3 - 1))) else (none)) else (none)) else (none)) else (none)) else (some x0)
def slices_Reverse_int_int.f (k : Nat) (l0 : List Int) : Option (List Int) := slices_Reverse_int_int.l0 k l0 0 (wrap64 ((l0.length : Int) - 1))
/-! impl_letterOf: function 80 -/
def impl_letterOf.l0 : Nat → Int → Int → List Int → Int → Int → Option (Int)
 | 0, _, _, _, _, _ => none
 | k + 1, x0, x5, x8, x9, x10 => if x10 < x9 then (if 0 ≤ x10 then (if x10 < (x8.length : Int) then (impl_letterOf.l0 k x0 (wrap64 ((wrap64 (x5 * x0)) + (rd x8 x10))) x8 x9 (wrap64 (x10 + 1))) else (none)) else (none)) else (some x5)
def impl_letterOf.f (k : Nat) (a0 : Int) (l1 : List Int) : Option (Int) := impl_letterOf.l0 k a0 0 l1 (l1.length : Int) 0
/-! impl_tracksOf: function 61 -/
def impl_tracksOf.l0 : Nat → Int → Int → List Int → Int → Option (List Int)
 | 0, _, _, _, _ => none
 | k + 1, x0, x2, x7, x8 => if x8 ≥ 0 then (if x0 = 0 then (none) else (if 0 ≤ x8 then (if x8 < (x7.length : Int) then (impl_tracksOf.l0 k x0 (wrap64 (Int.tdiv x2 x0)) (x7.set (x8 : Int).toNat (Int.tmod x2 x0)) (wrap64 (x8 - 1))) else (none)) else (none))) else (some x7)
def impl_tracksOf.f (k : Nat) (a0 : Int) (a1 : Int) (a2 : Int) : Option (List Int) := if 0 ≤ a1 then (if (a1 : Int).toNat ≤ 35184372088832 then (impl_tracksOf.l0 k a0 a2 (List.replicate (a1 : Int).toNat 0) (wrap64 (a1 - 1))) else (none)) else (none)
/-! spec_ReducedRelation: function 65 -/
def spec_ReducedRelation.f (k : Nat) (a0_0 : Int) (a0_1 : Int) (l0_2 : List (List Int)) (l0_3 : List Bool) : Option (Int × Int × (List (List Int)) × List Bool × Bool) := (spec_IsRelation.f k a0_0 a0_1 l0_2 l0_3).bind fun t853 => (if t853 = true then ((spec_l13Reduce.f k a0_0 a0_1 l0_2 l0_3).bind fun bt854 => (some (bt854.1, bt854.2.1, bt854.2.2.1, bt854.2.2.2, true))) else (some (0, 0, ([] : List (List Int)), ([] : List Bool), false)))
/-! spec_l13Copy: function 82 -/
def spec_l13Copy.l0 : Nat → Int → Int → Int → List (List Int) → List Bool → Int → Int → List (List Int) → List Bool → Option (Int × Int × (List (List Int)) × List Bool)
 | 0, _, _, _, _, _, _, _, _, _ => none
 | k + 1, x4, x863000, x863001, x863002, x863003, x871000, x871001, x871002, x871003 => if x4 < (x863002.length : Int) then ((some (([] : List Int) : List Int)).bind fun y871 => (if 0 ≤ x4 then (if y871.length + (rd_L1 x863002 x4).length < 17592186044416 then (if x871002.length < 5864062014805 then (spec_l13Copy.l0 k (wrap64 (x4 + 1)) x863000 x863001 x863002 x863003 x871000 x871001 (x871002 ++ [(y871 ++ (rd_L1 x863002 x4))]) x871003) else (none)) else (none)) else (none))) else (some (x871000, x871001, x871002, x871003))
def spec_l13Copy.f (k : Nat) (a0_0 : Int) (a0_1 : Int) (l0_2 : List (List Int)) (l0_3 : List Bool) : Option (Int × Int × (List (List Int)) × List Bool) := (some (([] : List Bool) : List Bool)).bind fun y864 => (if y864.length + l0_3.length < 140737488355328 then (spec_l13Copy.l0 k 0 a0_0 a0_1 l0_2 l0_3 a0_0 a0_1 ([] : List (List Int)) (y864 ++ l0_3)) else (none))
/-! spec_NotRelation: function 63 -/
def spec_NotRelation.l0 : Nat → Int → Int → Int → List (List Int) → List Bool → Int → Int → List (List Int) → List Bool → Option (Int × Int × (List (List Int)) × List Bool × Bool)
 | 0, _, _, _, _, _, _, _, _, _ => none
 | k + 1, x5, x882000, x882001, x882002, x882003, x893000, x893001, x893002, x893003 => if x5 < (x893003.length : Int) then (if 0 ≤ x5 then (if x5 < (x882003.length : Int) then (spec_NotRelation.l0 k (wrap64 (x5 + 1)) x882000 x882001 x882002 x882003 x893000 x893001 x893002 (x893003.set (x5 : Int).toNat (!(rdOf false x882003 x5)))) else (none)) else (none)) else ((spec_ReducedRelation.f k x893000 x893001 x893002 x893003).bind fun bt895 => (some (bt895.1, bt895.2.1, bt895.2.2.1, bt895.2.2.2.1, bt895.2.2.2.2)))
def spec_NotRelation.f (k : Nat) (a0_0 : Int) (a0_1 : Int) (l0_2 : List (List Int)) (l0_3 : List Bool) : Option (Int × Int × (List (List Int)) × List Bool × Bool) := (spec_IsRelation.f k a0_0 a0_1 l0_2 l0_3).bind fun t883 => (if t883 = true then ((spec_l13Copy.f k a0_0 a0_1 l0_2 l0_3).bind fun bt884 => (spec_NotRelation.l0 k 0 a0_0 a0_1 l0_2 l0_3 bt884.1 bt884.2.1 bt884.2.2.1 bt884.2.2.2)) else (some (0, 0, ([] : List (List Int)), ([] : List Bool), false)))
/-! impl_NotRelation: function 64 -/
def impl_NotRelation.l0 : Nat → List Bool → Int → Int → Int → Int → List (List Int) → List Bool → Option (Int × Int × (List (List Int)) × List Bool × Bool)
 | 0, _, _, _, _, _, _, _ => none
 | k + 1, x19, x20, x21, x921000, x921001, x921002, x921003 => if x21 < x20 then (if 0 ≤ x21 then (if x21 < (x19.length : Int) then (if x921003.length < 140737488355328 then (impl_NotRelation.l0 k x19 x20 (wrap64 (x21 + 1)) x921000 x921001 x921002 (x921003 ++ [!(rdOf false x19 x21)])) else (none)) else (none)) else (none)) else ((impl_Relation_reduced.f k x921000 x921001 x921002 x921003).bind fun bt925 => (some (bt925.1, bt925.2.1, bt925.2.2.1, bt925.2.2.2, true)))
def impl_NotRelation.f (k : Nat) (a0_0 : Int) (a0_1 : Int) (l0_2 : List (List Int)) (l0_3 : List Bool) : Option (Int × Int × (List (List Int)) × List Bool × Bool) := (impl_IsRelation.f k a0_0 a0_1 l0_2 l0_3).bind fun t919 => (if t919 = true then (impl_NotRelation.l0 k l0_3 (l0_3.length : Int) 0 a0_0 a0_1 l0_2 ([] : List Bool)) else (some (0, 0, ([] : List (List Int)), ([] : List Bool), false)))
/-! impl_Relation_useful: function 66 -/
mutual
def impl_Relation_useful.l0 : Nat → List Bool → Int → Int → Int → Int → List (List Int) → List Bool → Option (List Bool)
 | 0, _, _, _, _, _, _, _ => none
 | k + 1, x3, x13, x14, x1031000, x1031001, x1031002, x1031003 => if x14 < x13 then (impl_Relation_useful.l1 k x3 x13 x14 x1031002 (x1031002.length : Int) 0 x1031000 x1031001 x1031002 x1031003) else (some x3)
def impl_Relation_useful.l1 : Nat → List Bool → Int → Int → List (List Int) → Int → Int → Int → Int → List (List Int) → List Bool → Option (List Bool)
 | 0, _, _, _, _, _, _, _, _, _, _ => none
 | k + 1, x3, x13, x14, x17, x18, x19, x1031000, x1031001, x1031002, x1031003 => if x19 < x18 then (if 0 ≤ x19 then (if x19 < (x17.length : Int) then (impl_Relation_useful.l2 k x3 x19 x13 x14 x17 x18 x19 (rd_L1 x17 x19) ((rd_L1 x17 x19).length : Int) 0 x1031000 x1031001 x1031002 x1031003) else (none)) else (none)) else (impl_Relation_useful.l0 k x3 x13 (wrap64 (x14 + 1)) x1031000 x1031001 x1031002 x1031003)
def impl_Relation_useful.l2 : Nat → List Bool → Int → Int → Int → List (List Int) → Int → Int → List Int → Int → Int → Int → Int → List (List Int) → List Bool → Option (List Bool)
 | 0, _, _, _, _, _, _, _, _, _, _, _, _, _, _ => none
 | k + 1, x3, x4, x13, x14, x17, x18, x19, x24, x25, x26, x1031000, x1031001, x1031002, x1031003 => if x26 < x25 then (if 0 ≤ x26 then (if x26 < (x24.length : Int) then (if 0 ≤ x4 then (if x4 < (x3.length : Int) then (if rdOf false x3 x4 = true then (impl_Relation_useful.l2 k (x3.set (x4 : Int).toNat true) x4 x13 x14 x17 x18 x19 x24 x25 (wrap64 (x26 + 1)) x1031000 x1031001 x1031002 x1031003) else (if 0 ≤ (rd x24 x26) then (if (rd x24 x26) < (x3.length : Int) then (impl_Relation_useful.l2 k (x3.set (x4 : Int).toNat (rdOf false x3 (rd x24 x26))) x4 x13 x14 x17 x18 x19 x24 x25 (wrap64 (x26 + 1)) x1031000 x1031001 x1031002 x1031003) else (none)) else (none))) else (none)) else (none)) else (none)) else (none)) else (impl_Relation_useful.l1 k x3 x13 x14 x17 x18 (wrap64 (x19 + 1)) x1031000 x1031001 x1031002 x1031003)
end
def impl_Relation_useful.f (k : Nat) (a0_0 : Int) (a0_1 : Int) (l0_2 : List (List Int)) (l0_3 : List Bool) : Option (List Bool) := (slices_Clone_bool_bool.f l0_3).bind fun t1031 => (impl_Relation_useful.l0 k t1031 (l0_2.length : Int) 0 a0_0 a0_1 l0_2 l0_3)
/-! slices_Index_bool_bool: function 84 -/
def slices_Index_bool_bool.l0 : Nat → List Bool → Bool → Int → Int → Option (Int)
 | 0, _, _, _, _ => none
 | k + 1, x0, x1, x7, x8 => if x8 < x7 then (if 0 ≤ x8 then (if x8 < (x0.length : Int) then (if (x1 == (rdOf false x0 x8)) = true then (some x8) else (slices_Index_bool_bool.l0 k x0 x1 x7 (wrap64 (x8 + 1)))) else (none)) else (none)) else (some (-1))
def slices_Index_bool_bool.f (k : Nat) (l0 : List Bool) (a1 : Bool) : Option (Int) := slices_Index_bool_bool.l0 k l0 a1 (l0.length : Int) 0
/-! slices_Contains_bool_bool: function 67 -/
def slices_Contains_bool_bool.f (k : Nat) (l0 : List Bool) (a1 : Bool) : Option (Bool) := (slices_Index_bool_bool.f k l0 a1).bind fun t1041 => (some (decide (t1041 ≥ 0)))
/-! impl_IsFiniteSet: function 29 -/
mutual
def impl_IsFiniteSet.l0 : Nat → List Bool → List Bool → List Int → Int → Int → Int → Int → List (List Int) → List Bool → Option (Bool)
 | 0, _, _, _, _, _, _, _, _, _ => none
 | k + 1, x3, x4, x25, x26, x27, x1043000, x1043001, x1043002, x1043003 => if x27 < x26 then (if 0 ≤ x27 then (if x27 < (x25.length : Int) then (if x27 > 0 then (if 0 ≤ (rd x25 x27) then (if (rd x25 x27) < (x3.length : Int) then (if rdOf false x3 (rd x25 x27) = true then (if (rd x25 x27) < (x4.length : Int) then (impl_IsFiniteSet.l0 k x3 (x4.set ((rd x25 x27) : Int).toNat true) x25 x26 (wrap64 (x27 + 1)) x1043000 x1043001 x1043002 x1043003) else (none)) else (impl_IsFiniteSet.l0 k x3 x4 x25 x26 (wrap64 (x27 + 1)) x1043000 x1043001 x1043002 x1043003)) else (none)) else (none)) else (impl_IsFiniteSet.l0 k x3 x4 x25 x26 (wrap64 (x27 + 1)) x1043000 x1043001 x1043002 x1043003)) else (none)) else (none)) else (impl_IsFiniteSet.l1 k x3 x4 (x1043002.length : Int) 0 x1043000 x1043001 x1043002 x1043003)
def impl_IsFiniteSet.l1 : Nat → List Bool → List Bool → Int → Int → Int → Int → List (List Int) → List Bool → Option (Bool)
 | 0, _, _, _, _, _, _, _, _ => none
 | k + 1, x3, x4, x46, x47, x1043000, x1043001, x1043002, x1043003 => if x47 < x46 then (if 0 ≤ (x1043002.length : Int) then (if ((x1043002.length : Int) : Int).toNat ≤ 281474976710656 then (impl_IsFiniteSet.l2 k x3 (List.replicate ((x1043002.length : Int) : Int).toNat false) false x46 x47 x4 (x4.length : Int) 0 x1043000 x1043001 x1043002 x1043003) else (none)) else (none)) else ((slices_Contains_bool_bool.f k x4 true).bind fun t1054 => (some (!t1054)))
def impl_IsFiniteSet.l2 : Nat → List Bool → List Bool → Bool → Int → Int → List Bool → Int → Int → Int → Int → List (List Int) → List Bool → Option (Bool)
 | 0, _, _, _, _, _, _, _, _, _, _, _, _ => none
 | k + 1, x3, x7, x8, x46, x47, x53, x54, x55, x1043000, x1043001, x1043002, x1043003 => if x55 < x54 then (if 0 ≤ x55 then (if x55 < (x53.length : Int) then (if rdOf false x53 x55 = true then (if x55 < (x1043002.length : Int) then (impl_IsFiniteSet.l3 k x3 x7 x8 x46 x47 x53 x54 x55 (rd_L1 x1043002 x55) ((rd_L1 x1043002 x55).length : Int) 0 x1043000 x1043001 x1043002 x1043003) else (none)) else (impl_IsFiniteSet.l2 k x3 x7 x8 x46 x47 x53 x54 (wrap64 (x55 + 1)) x1043000 x1043001 x1043002 x1043003)) else (none)) else (none)) else (if x8 = true then (impl_IsFiniteSet.l1 k x3 x7 x46 (wrap64 (x47 + 1)) x1043000 x1043001 x1043002 x1043003) else (some true))
def impl_IsFiniteSet.l3 : Nat → List Bool → List Bool → Bool → Int → Int → List Bool → Int → Int → List Int → Int → Int → Int → Int → List (List Int) → List Bool → Option (Bool)
 | 0, _, _, _, _, _, _, _, _, _, _, _, _, _, _, _ => none
 | k + 1, x3, x7, x8, x46, x47, x53, x54, x55, x66, x67, x68, x1043000, x1043001, x1043002, x1043003 => if x68 < x67 then (if 0 ≤ x68 then (if x68 < (x66.length : Int) then (if 0 ≤ (rd x66 x68) then (if (rd x66 x68) < (x3.length : Int) then (if rdOf false x3 (rd x66 x68) = true then (if (rd x66 x68) < (x7.length : Int) then (impl_IsFiniteSet.l3 k x3 (x7.set ((rd x66 x68) : Int).toNat true) true x46 x47 x53 x54 x55 x66 x67 (wrap64 (x68 + 1)) x1043000 x1043001 x1043002 x1043003) else (none)) else (impl_IsFiniteSet.l3 k x3 x7 x8 x46 x47 x53 x54 x55 x66 x67 (wrap64 (x68 + 1)) x1043000 x1043001 x1043002 x1043003)) else (none)) else (none)) else (none)) else (none)) else (impl_IsFiniteSet.l2 k x3 x7 x8 x46 x47 x53 x54 (wrap64 (x55 + 1)) x1043000 x1043001 x1043002 x1043003)
end
def impl_IsFiniteSet.f (k : Nat) (a0_0 : Int) (a0_1 : Int) (l0_2 : List (List Int)) (l0_3 : List Bool) : Option (Bool) := (impl_IsRelation.f k a0_0 a0_1 l0_2 l0_3).bind fun t1043 => (if t1043 = true then ((impl_Relation_useful.f k a0_0 a0_1 l0_2 l0_3).bind fun t1044 => (if 0 ≤ (l0_2.length : Int) then (if ((l0_2.length : Int) : Int).toNat ≤ 281474976710656 then (if 0 < (l0_2.length : Int) then (impl_IsFiniteSet.l0 k t1044 (List.replicate ((l0_2.length : Int) : Int).toNat false) (rd_L1 l0_2 0) ((rd_L1 l0_2 0).length : Int) 0 a0_0 a0_1 l0_2 l0_3) else (none)) else (none)) else (none))) else (some false))
/-! spec_l14Both: function 48 -/
mutual
def spec_l14Both.j0 : Nat → Bool → Bool → Int → Int → List (List Int) → List Bool → Int → Int → List (List Int) → List Bool → Option (Int × Int × (List (List Int)) × List Bool × Bool)
 | 0, _, _, _, _, _, _, _, _, _, _ => none
 | k + 1, x2, x40, x204000, x204001, x204002, x204003, x205000, x205001, x205002, x205003 => if x40 = true then (some (0, 0, ([] : List (List Int)), ([] : List Bool), false)) else (if 0 ≤ (wrap64 ((x204002.length : Int) * (x205002.length : Int))) then (if (wrap64 ((x204002.length : Int) * (x205002.length : Int)) : Int).toNat ≤ 35184372088832 then ((some (List.replicate (wrap64 ((x204002.length : Int) * (x205002.length : Int)) : Int).toNat 0 : List Int)).bind fun y214 => (if 0 < (y214.length : Int) then (spec_l14Both.l0 k x2 (([] : List (List Int))) (([] : List Bool)) (y214.set (0 : Int).toNat 1) (([0] : List Int)) 0 x204000 x204001 x204002 x204003 x205000 x205001 x205002 x205003) else (none))) else (none)) else (none))
def spec_l14Both.l0 : Nat → Bool → List (List Int) → List Bool → List Int → List Int → Int → Int → Int → List (List Int) → List Bool → Int → Int → List (List Int) → List Bool → Option (Int × Int × (List (List Int)) × List Bool × Bool)
 | 0, _, _, _, _, _, _, _, _, _, _, _, _, _, _ => none
 | k + 1, x2, x8, x9, x10, x11, x12, x204000, x204001, x204002, x204003, x205000, x205001, x205002, x205003 => if x12 < (x11.length : Int) then (if 0 ≤ x12 then (if (x205002.length : Int) = 0 then (none) else (spec_l14Both.l1 k x2 x8 x9 x10 x11 x12 (wrap64 (Int.tdiv (rd x11 x12) (x205002.length : Int))) (Int.tmod (rd x11 x12) (x205002.length : Int)) (([] : List Int)) 0 x204000 x204001 x204002 x204003 x205000 x205001 x205002 x205003)) else (none)) else ((spec_l13Reduce.f k x204000 x204001 x8 x9).bind fun bt221 => (if (bt221.2.2.1.length : Int) > 48 then (some (0, 0, ([] : List (List Int)), ([] : List Bool), false)) else (some (bt221.1, bt221.2.1, bt221.2.2.1, bt221.2.2.2, true))))
def spec_l14Both.l1 : Nat → Bool → List (List Int) → List Bool → List Int → List Int → Int → Int → Int → List Int → Int → Int → Int → List (List Int) → List Bool → Int → Int → List (List Int) → List Bool → Option (Int × Int × (List (List Int)) × List Bool × Bool)
 | 0, _, _, _, _, _, _, _, _, _, _, _, _, _, _, _, _, _, _ => none
 | k + 1, x2, x8, x9, x10, x11, x12, x13, x14, x15, x16, x204000, x204001, x204002, x204003, x205000, x205001, x205002, x205003 => if 0 ≤ x13 then (if x13 < (x204002.length : Int) then (if x16 < ((rd_L1 x204002 x13).length : Int) then (if 0 ≤ x16 then (if 0 ≤ x14 then (if x14 < (x205002.length : Int) then (if x16 < ((rd_L1 x205002 x14).length : Int) then (if 0 ≤ (wrap64 ((wrap64 ((rd (rd_L1 x204002 x13) x16) * (x205002.length : Int))) + (rd (rd_L1 x205002 x14) x16))) then (if (wrap64 ((wrap64 ((rd (rd_L1 x204002 x13) x16) * (x205002.length : Int))) + (rd (rd_L1 x205002 x14) x16))) < (x10.length : Int) then (if (rd x10 (wrap64 ((wrap64 ((rd (rd_L1 x204002 x13) x16) * (x205002.length : Int))) + (rd (rd_L1 x205002 x14) x16)))) = 0 then (if x11.length < 17592186044416 then ((some (x11 ++ [wrap64 ((wrap64 ((rd (rd_L1 x204002 x13) x16) * (x205002.length : Int))) + (rd (rd_L1 x205002 x14) x16))] : List Int)).bind fun y241 => ((some (x10.set ((wrap64 ((wrap64 ((rd (rd_L1 x204002 x13) x16) * (x205002.length : Int))) + (rd (rd_L1 x205002 x14) x16))) : Int).toNat (y241.length : Int) : List Int)).bind fun y244 => (if x15.length < 17592186044416 then (spec_l14Both.l1 k x2 x8 x9 y244 y241 x12 x13 x14 (x15 ++ [wrap64 ((rd y244 (wrap64 ((wrap64 ((rd (rd_L1 x204002 x13) x16) * (x205002.length : Int))) + (rd (rd_L1 x205002 x14) x16)))) - 1)]) (wrap64 (x16 + 1)) x204000 x204001 x204002 x204003 x205000 x205001 x205002 x205003) else (none)))) else (none)) else (if x15.length < 17592186044416 then (spec_l14Both.l1 k x2 x8 x9 x10 x11 x12 x13 x14 (x15 ++ [wrap64 ((rd x10 (wrap64 ((wrap64 ((rd (rd_L1 x204002 x13) x16) * (x205002.length : Int))) + (rd (rd_L1 x205002 x14) x16)))) - 1)]) (wrap64 (x16 + 1)) x204000 x204001 x204002 x204003 x205000 x205001 x205002 x205003) else (none))) else (none)) else (none)) else (none)) else (none)) else (none)) else (none)) else (if x8.length < 5864062014805 then ((some (x8 ++ [x15] : List (List Int))).bind fun y253 => (if x2 = true then (if x13 < (x204003.length : Int) then (if rdOf false x204003 x13 = true then (if x9.length < 140737488355328 then (spec_l14Both.l0 k x2 y253 (x9 ++ [true]) x10 x11 (wrap64 (x12 + 1)) x204000 x204001 x204002 x204003 x205000 x205001 x205002 x205003) else (none)) else (if 0 ≤ x14 then (if x14 < (x205003.length : Int) then (if x9.length < 140737488355328 then (spec_l14Both.l0 k x2 y253 (x9 ++ [rdOf false x205003 x14]) x10 x11 (wrap64 (x12 + 1)) x204000 x204001 x204002 x204003 x205000 x205001 x205002 x205003) else (none)) else (none)) else (none))) else (none)) else (if x13 < (x204003.length : Int) then (if rdOf false x204003 x13 = true then (if 0 ≤ x14 then (if x14 < (x205003.length : Int) then (if x9.length < 140737488355328 then (spec_l14Both.l0 k x2 y253 (x9 ++ [rdOf false x205003 x14]) x10 x11 (wrap64 (x12 + 1)) x204000 x204001 x204002 x204003 x205000 x205001 x205002 x205003) else (none)) else (none)) else (none)) else (if x9.length < 140737488355328 then (spec_l14Both.l0 k x2 y253 (x9 ++ [false]) x10 x11 (wrap64 (x12 + 1)) x204000 x204001 x204002 x204003 x205000 x205001 x205002 x205003) else (none))) else (none)))) else (none))) else (none)) else (none)
end
def spec_l14Both.f (k : Nat) (a0_0 : Int) (a0_1 : Int) (l0_2 : List (List Int)) (l0_3 : List Bool) (a1_0 : Int) (a1_1 : Int) (l1_2 : List (List Int)) (l1_3 : List Bool) (a2 : Bool) : Option (Int × Int × (List (List Int)) × List Bool × Bool) := (spec_IsRelation.f k a0_0 a0_1 l0_2 l0_3).bind fun t206 => (if t206 = true then ((spec_IsRelation.f k a1_0 a1_1 l1_2 l1_3).bind fun t207 => (if t207 = true then (if a0_0 = a1_0 then (spec_l14Both.j0 k a2 (a0_1 != a1_1) a0_0 a0_1 l0_2 l0_3 a1_0 a1_1 l1_2 l1_3) else (spec_l14Both.j0 k a2 true a0_0 a0_1 l0_2 l0_3 a1_0 a1_1 l1_2 l1_3)) else (spec_l14Both.j0 k a2 true a0_0 a0_1 l0_2 l0_3 a1_0 a1_1 l1_2 l1_3))) else (spec_l14Both.j0 k a2 true a0_0 a0_1 l0_2 l0_3 a1_0 a1_1 l1_2 l1_3))
/-! spec_BothRelations: function 19 -/
def spec_BothRelations.f (k : Nat) (a0_0 : Int) (a0_1 : Int) (l0_2 : List (List Int)) (l0_3 : List Bool) (a1_0 : Int) (a1_1 : Int) (l1_2 : List (List Int)) (l1_3 : List Bool) : Option (Int × Int × (List (List Int)) × List Bool × Bool) := (spec_l14Both.f k a0_0 a0_1 l0_2 l0_3 a1_0 a1_1 l1_2 l1_3 false).bind fun bt275 => (some (bt275.1, bt275.2.1, bt275.2.2.1, bt275.2.2.2.1, bt275.2.2.2.2))
/-! spec_EitherRelation: function 22 -/
def spec_EitherRelation.f (k : Nat) (a0_0 : Int) (a0_1 : Int) (l0_2 : List (List Int)) (l0_3 : List Bool) (a1_0 : Int) (a1_1 : Int) (l1_2 : List (List Int)) (l1_3 : List Bool) : Option (Int × Int × (List (List Int)) × List Bool × Bool) := (spec_l14Both.f k a0_0 a0_1 l0_2 l0_3 a1_0 a1_1 l1_2 l1_3 true).bind fun bt288 => (some (bt288.1, bt288.2.1, bt288.2.2.1, bt288.2.2.2.1, bt288.2.2.2.2))
/-! spec_ExistsTrack: function 24 -/
mutual
def spec_ExistsTrack.j0 : Nat → Int → Bool → Int → Int → List (List Int) → List Bool → Option (Int × Int × (List (List Int)) × List Bool × Bool)
 | 0, _, _, _, _, _, _ => none
 | k + 1, x1, x37, x306000, x306001, x306002, x306003 => if x37 = true then (some (0, 0, ([] : List (List Int)), ([] : List Bool), false)) else (spec_ExistsTrack.l0 k x1 (x306002.length : Int) (([0] : List Int)) 0 x306000 x306001 x306002 x306003)
def spec_ExistsTrack.l0 : Nat → Int → Int → List Int → Int → Int → Int → List (List Int) → List Bool → Option (Int × Int × (List (List Int)) × List Bool × Bool)
 | 0, _, _, _, _, _, _, _, _ => none
 | k + 1, x1, x6, x7, x8, x306000, x306001, x306002, x306003 => if x8 < (x7.length : Int) then (spec_ExistsTrack.l1 k x1 x6 x7 x8 0 x306000 x306001 x306002 x306003) else ((spec_l15Set.f k x6 x7).bind fun t319 => (spec_ExistsTrack.l2 k x1 x6 (([t319] : List (List Int))) (([] : List (List Int))) (([] : List Bool)) 0 x306000 x306001 x306002 x306003))
def spec_ExistsTrack.l1 : Nat → Int → Int → List Int → Int → Int → Int → Int → List (List Int) → List Bool → Option (Int × Int × (List (List Int)) × List Bool × Bool)
 | 0, _, _, _, _, _, _, _, _, _ => none
 | k + 1, x1, x6, x7, x8, x9, x306000, x306001, x306002, x306003 => if x9 < x306000 then (if 0 ≤ x8 then (if x8 < (x7.length : Int) then (if 0 ≤ (rd x7 x8) then (if (rd x7 x8) < (x306002.length : Int) then ((spec_l15Letter.f k x306000 x306001 0 x1 x9).bind fun t313 => (if 0 ≤ t313 then (if t313 < ((rd_L1 x306002 (rd x7 x8)).length : Int) then ((spec_l4Has.f k x7 (rd (rd_L1 x306002 (rd x7 x8)) t313)).bind fun t315 => (if t315 = true then (spec_ExistsTrack.l1 k x1 x6 x7 x8 (wrap64 (x9 + 1)) x306000 x306001 x306002 x306003) else (if x7.length < 17592186044416 then (spec_ExistsTrack.l1 k x1 x6 (x7 ++ [rd (rd_L1 x306002 (rd x7 x8)) t313]) x8 (wrap64 (x9 + 1)) x306000 x306001 x306002 x306003) else (none)))) else (none)) else (none))) else (none)) else (none)) else (none)) else (none)) else (spec_ExistsTrack.l0 k x1 x6 x7 (wrap64 (x8 + 1)) x306000 x306001 x306002 x306003)
def spec_ExistsTrack.l2 : Nat → Int → Int → List (List Int) → List (List Int) → List Bool → Int → Int → Int → List (List Int) → List Bool → Option (Int × Int × (List (List Int)) × List Bool × Bool)
 | 0, _, _, _, _, _, _, _, _, _, _ => none
 | k + 1, x1, x6, x11, x12, x13, x14, x306000, x306001, x306002, x306003 => if x14 < (x11.length : Int) then (if (x11.length : Int) > 400 then (some (0, 0, ([] : List (List Int)), ([] : List Bool), false)) else (spec_ExistsTrack.l3 k x1 x6 x11 x12 x13 x14 (([] : List Int)) 0 x306000 x306001 x306002 x306003)) else ((spec_l13Reduce.f k x306000 (wrap64 (x306001 - 1)) x12 x13).bind fun bt331 => (if (bt331.2.2.1.length : Int) > 48 then (some (0, 0, ([] : List (List Int)), ([] : List Bool), false)) else (some (bt331.1, bt331.2.1, bt331.2.2.1, bt331.2.2.2, true))))
def spec_ExistsTrack.l3 : Nat → Int → Int → List (List Int) → List (List Int) → List Bool → Int → List Int → Int → Int → Int → List (List Int) → List Bool → Option (Int × Int × (List (List Int)) × List Bool × Bool)
 | 0, _, _, _, _, _, _, _, _, _, _, _, _ => none
 | k + 1, x1, x6, x11, x12, x13, x14, x15, x16, x306000, x306001, x306002, x306003 => (spec_l13Letters.f k x306000 (wrap64 (x306001 - 1))).bind fun t343 => (if x16 < t343 then (if 0 ≤ x6 then (if (x6 : Int).toNat ≤ 35184372088832 then (spec_ExistsTrack.l4 k x1 x6 x11 x12 x13 x14 x15 x16 (List.replicate (x6 : Int).toNat 0) 0 x306000 x306001 x306002 x306003) else (none)) else (none)) else (if x12.length < 5864062014805 then (spec_ExistsTrack.l7 k x1 x6 x11 (x12 ++ [x15]) x13 x14 false 0 x306000 x306001 x306002 x306003) else (none)))
def spec_ExistsTrack.l4 : Nat → Int → Int → List (List Int) → List (List Int) → List Bool → Int → List Int → Int → List Int → Int → Int → Int → List (List Int) → List Bool → Option (Int × Int × (List (List Int)) × List Bool × Bool)
 | 0, _, _, _, _, _, _, _, _, _, _, _, _, _, _ => none
 | k + 1, x1, x6, x11, x12, x13, x14, x15, x16, x17, x18, x306000, x306001, x306002, x306003 => if x18 < x6 then (spec_ExistsTrack.l5 k x1 x6 x11 x12 x13 x14 x15 x16 x17 x18 0 x306000 x306001 x306002 x306003) else (spec_ExistsTrack.l6 k x1 x6 x11 x12 x13 x14 x15 x16 x17 (-1) 0 x306000 x306001 x306002 x306003)
def spec_ExistsTrack.l5 : Nat → Int → Int → List (List Int) → List (List Int) → List Bool → Int → List Int → Int → List Int → Int → Int → Int → Int → List (List Int) → List Bool → Option (Int × Int × (List (List Int)) × List Bool × Bool)
 | 0, _, _, _, _, _, _, _, _, _, _, _, _, _, _, _ => none
 | k + 1, x1, x6, x11, x12, x13, x14, x15, x16, x17, x18, x19, x306000, x306001, x306002, x306003 => if x19 < x306000 then (if 0 ≤ x14 then (if x14 < (x11.length : Int) then (if 0 ≤ x18 then (if x18 < ((rd_L1 x11 x14).length : Int) then (if (rd (rd_L1 x11 x14) x18) = 1 then (if x18 < (x306002.length : Int) then ((spec_l15Letter.f k x306000 x306001 x16 x1 x19).bind fun t350 => (if 0 ≤ t350 then (if t350 < ((rd_L1 x306002 x18).length : Int) then (if 0 ≤ (rd (rd_L1 x306002 x18) t350) then (if (rd (rd_L1 x306002 x18) t350) < (x17.length : Int) then (spec_ExistsTrack.l5 k x1 x6 x11 x12 x13 x14 x15 x16 (x17.set ((rd (rd_L1 x306002 x18) t350) : Int).toNat 1) x18 (wrap64 (x19 + 1)) x306000 x306001 x306002 x306003) else (none)) else (none)) else (none)) else (none))) else (none)) else (spec_ExistsTrack.l4 k x1 x6 x11 x12 x13 x14 x15 x16 x17 (wrap64 (x18 + 1)) x306000 x306001 x306002 x306003)) else (none)) else (none)) else (none)) else (none)) else (spec_ExistsTrack.l4 k x1 x6 x11 x12 x13 x14 x15 x16 x17 (wrap64 (x18 + 1)) x306000 x306001 x306002 x306003)
def spec_ExistsTrack.l6 : Nat → Int → Int → List (List Int) → List (List Int) → List Bool → Int → List Int → Int → List Int → Int → Int → Int → Int → List (List Int) → List Bool → Option (Int × Int × (List (List Int)) × List Bool × Bool)
 | 0, _, _, _, _, _, _, _, _, _, _, _, _, _, _, _ => none
 | k + 1, x1, x6, x11, x12, x13, x14, x15, x16, x17, x20, x21, x306000, x306001, x306002, x306003 => if x21 < (x11.length : Int) then (spec_ExistsTrack.j8 k x1 x6 x11 x12 x13 x14 x15 x16 x17 x20 x21 (decide (x20 < 0)) x306000 x306001 x306002 x306003) else (spec_ExistsTrack.j8 k x1 x6 x11 x12 x13 x14 x15 x16 x17 x20 x21 false x306000 x306001 x306002 x306003)
def spec_ExistsTrack.j8 : Nat → Int → Int → List (List Int) → List (List Int) → List Bool → Int → List Int → Int → List Int → Int → Int → Bool → Int → Int → List (List Int) → List Bool → Option (Int × Int × (List (List Int)) × List Bool × Bool)
 | 0, _, _, _, _, _, _, _, _, _, _, _, _, _, _, _, _ => none
 | k + 1, x1, x6, x11, x12, x13, x14, x15, x16, x17, x20, x21, x154, x306000, x306001, x306002, x306003 => if x154 = true then (if 0 ≤ x21 then (if x21 < (x11.length : Int) then ((spec_l3Same.f k (rd_L1 x11 x21) x17).bind fun t354 => (if t354 = true then (spec_ExistsTrack.l6 k x1 x6 x11 x12 x13 x14 x15 x16 x17 x21 (wrap64 (x21 + 1)) x306000 x306001 x306002 x306003) else (spec_ExistsTrack.l6 k x1 x6 x11 x12 x13 x14 x15 x16 x17 x20 (wrap64 (x21 + 1)) x306000 x306001 x306002 x306003))) else (none)) else (none)) else (if x20 < 0 then (if x11.length < 5864062014805 then (if x15.length < 17592186044416 then (spec_ExistsTrack.l3 k x1 x6 (x11 ++ [x17]) x12 x13 x14 (x15 ++ [(x11.length : Int)]) (wrap64 (x16 + 1)) x306000 x306001 x306002 x306003) else (none)) else (none)) else (if x15.length < 17592186044416 then (spec_ExistsTrack.l3 k x1 x6 x11 x12 x13 x14 (x15 ++ [x20]) (wrap64 (x16 + 1)) x306000 x306001 x306002 x306003) else (none)))
def spec_ExistsTrack.l7 : Nat → Int → Int → List (List Int) → List (List Int) → List Bool → Int → Bool → Int → Int → Int → List (List Int) → List Bool → Option (Int × Int × (List (List Int)) × List Bool × Bool)
 | 0, _, _, _, _, _, _, _, _, _, _, _, _ => none
 | k + 1, x1, x6, x11, x12, x13, x14, x22, x23, x306000, x306001, x306002, x306003 => if x23 < x6 then (if x22 = true then (spec_ExistsTrack.l7 k x1 x6 x11 x12 x13 x14 true (wrap64 (x23 + 1)) x306000 x306001 x306002 x306003) else (if 0 ≤ x14 then (if x14 < (x11.length : Int) then (if 0 ≤ x23 then (if x23 < ((rd_L1 x11 x14).length : Int) then (if (rd (rd_L1 x11 x14) x23) = 1 then (if x23 < (x306003.length : Int) then (spec_ExistsTrack.l7 k x1 x6 x11 x12 x13 x14 (rdOf false x306003 x23) (wrap64 (x23 + 1)) x306000 x306001 x306002 x306003) else (none)) else (spec_ExistsTrack.l7 k x1 x6 x11 x12 x13 x14 false (wrap64 (x23 + 1)) x306000 x306001 x306002 x306003)) else (none)) else (none)) else (none)) else (none))) else (if x13.length < 140737488355328 then (spec_ExistsTrack.l2 k x1 x6 x11 x12 (x13 ++ [x22]) (wrap64 (x14 + 1)) x306000 x306001 x306002 x306003) else (none))
end
def spec_ExistsTrack.f (k : Nat) (a0_0 : Int) (a0_1 : Int) (l0_2 : List (List Int)) (l0_3 : List Bool) (a1 : Int) : Option (Int × Int × (List (List Int)) × List Bool × Bool) := (spec_IsRelation.f k a0_0 a0_1 l0_2 l0_3).bind fun t307 => (if t307 = true then (if a1 < 0 then (spec_ExistsTrack.j0 k a1 true a0_0 a0_1 l0_2 l0_3) else (spec_ExistsTrack.j0 k a1 (decide (a1 ≥ a0_1)) a0_0 a0_1 l0_2 l0_3)) else (spec_ExistsTrack.j0 k a1 true a0_0 a0_1 l0_2 l0_3))
/-! spec_AllTrack: function 26 -/
def spec_AllTrack.f (k : Nat) (a0_0 : Int) (a0_1 : Int) (l0_2 : List (List Int)) (l0_3 : List Bool) (a1 : Int) : Option (Int × Int × (List (List Int)) × List Bool × Bool) := (spec_NotRelation.f k a0_0 a0_1 l0_2 l0_3).bind fun bt429 => ((spec_ExistsTrack.f k bt429.1 bt429.2.1 bt429.2.2.1 bt429.2.2.2.1 a1).bind fun bt439 => ((spec_NotRelation.f k bt439.1 bt439.2.1 bt439.2.2.1 bt439.2.2.2.1).bind fun bt449 => (if bt429.2.2.2.2 = true then (if bt439.2.2.2.2 = true then (if bt449.2.2.2.2 = true then (some (bt449.1, bt449.2.1, bt449.2.2.1, bt449.2.2.2.1, true)) else (some (0, 0, ([] : List (List Int)), ([] : List Bool), false))) else (some (0, 0, ([] : List (List Int)), ([] : List Bool), false))) else (some (0, 0, ([] : List (List Int)), ([] : List Bool), false)))))
/-! spec_IsFiniteSet: function 28 -/
mutual
def spec_IsFiniteSet.l0 : Nat → List Bool → Int → Int → Int → List (List Int) → List Bool → Option (Bool)
 | 0, _, _, _, _, _, _ => none
 | k + 1, x5, x6, x470000, x470001, x470002, x470003 => if x6 ≤ (x470002.length : Int) then (spec_IsFiniteSet.l1 k x5 x6 0 x470000 x470001 x470002 x470003) else (spec_IsFiniteSet.l3 k x5 0 x470000 x470001 x470002 x470003)
def spec_IsFiniteSet.l1 : Nat → List Bool → Int → Int → Int → Int → List (List Int) → List Bool → Option (Bool)
 | 0, _, _, _, _, _, _, _ => none
 | k + 1, x5, x6, x7, x470000, x470001, x470002, x470003 => if x7 < (x470002.length : Int) then (if 0 ≤ x7 then (if x7 < (x5.length : Int) then (if rdOf false x5 x7 = true then (spec_IsFiniteSet.j2 k (x5.set (x7 : Int).toNat true) x6 x7 x470000 x470001 x470002 x470003) else (if x7 < (x470003.length : Int) then (spec_IsFiniteSet.j2 k (x5.set (x7 : Int).toNat (rdOf false x470003 x7)) x6 x7 x470000 x470001 x470002 x470003) else (none))) else (none)) else (none)) else (spec_IsFiniteSet.l0 k x5 (wrap64 (x6 + 1)) x470000 x470001 x470002 x470003)
def spec_IsFiniteSet.j2 : Nat → List Bool → Int → Int → Int → Int → List (List Int) → List Bool → Option (Bool)
 | 0, _, _, _, _, _, _, _ => none
 | k + 1, x5, x6, x7, x470000, x470001, x470002, x470003 => spec_IsFiniteSet.l2 k x5 x6 x7 0 x470000 x470001 x470002 x470003
def spec_IsFiniteSet.l2 : Nat → List Bool → Int → Int → Int → Int → Int → List (List Int) → List Bool → Option (Bool)
 | 0, _, _, _, _, _, _, _, _ => none
 | k + 1, x5, x6, x7, x8, x470000, x470001, x470002, x470003 => if 0 ≤ x7 then (if x7 < (x470002.length : Int) then (if x8 < ((rd_L1 x470002 x7).length : Int) then (if x7 < (x5.length : Int) then (if rdOf false x5 x7 = true then (spec_IsFiniteSet.l2 k (x5.set (x7 : Int).toNat true) x6 x7 (wrap64 (x8 + 1)) x470000 x470001 x470002 x470003) else (if 0 ≤ x8 then (if 0 ≤ (rd (rd_L1 x470002 x7) x8) then (if (rd (rd_L1 x470002 x7) x8) < (x5.length : Int) then (spec_IsFiniteSet.l2 k (x5.set (x7 : Int).toNat (rdOf false x5 (rd (rd_L1 x470002 x7) x8))) x6 x7 (wrap64 (x8 + 1)) x470000 x470001 x470002 x470003) else (none)) else (none)) else (none))) else (none)) else (spec_IsFiniteSet.l1 k x5 x6 (wrap64 (x7 + 1)) x470000 x470001 x470002 x470003)) else (none)) else (none)
def spec_IsFiniteSet.l3 : Nat → List Bool → Int → Int → Int → List (List Int) → List Bool → Option (Bool)
 | 0, _, _, _, _, _, _ => none
 | k + 1, x5, x9, x470000, x470001, x470002, x470003 => if x9 < (x470002.length : Int) then (spec_IsFiniteSet.l4 k x5 x9 (([] : List Int)) 0 x470000 x470001 x470002 x470003) else (some true)
def spec_IsFiniteSet.l4 : Nat → List Bool → Int → List Int → Int → Int → Int → List (List Int) → List Bool → Option (Bool)
 | 0, _, _, _, _, _, _, _, _ => none
 | k + 1, x5, x9, x10, x11, x470000, x470001, x470002, x470003 => if 0 ≤ x9 then (if x9 < (x470002.length : Int) then (if x11 < ((rd_L1 x470002 x9).length : Int) then (if x9 < (x5.length : Int) then (spec_IsFiniteSet.j6 k x5 x9 x10 x11 (rdOf false x5 x9) x470000 x470001 x470002 x470003) else (none)) else (spec_IsFiniteSet.j6 k x5 x9 x10 x11 false x470000 x470001 x470002 x470003)) else (none)) else (none)
def spec_IsFiniteSet.j6 : Nat → List Bool → Int → List Int → Int → Bool → Int → Int → List (List Int) → List Bool → Option (Bool)
 | 0, _, _, _, _, _, _, _, _, _ => none
 | k + 1, x5, x9, x10, x11, x105, x470000, x470001, x470002, x470003 => if x105 = true then (if x9 > 0 then (if 0 ≤ x9 then (if x9 < (x470002.length : Int) then (if 0 ≤ x11 then (if x11 < ((rd_L1 x470002 x9).length : Int) then (if 0 ≤ (rd (rd_L1 x470002 x9) x11) then (if (rd (rd_L1 x470002 x9) x11) < (x5.length : Int) then (if rdOf false x5 (rd (rd_L1 x470002 x9) x11) = true then ((spec_l4Has.f k x10 (rd (rd_L1 x470002 x9) x11)).bind fun t494 => (if t494 = true then (spec_IsFiniteSet.l4 k x5 x9 x10 (wrap64 (x11 + 1)) x470000 x470001 x470002 x470003) else (if x10.length < 17592186044416 then (spec_IsFiniteSet.l4 k x5 x9 (x10 ++ [rd (rd_L1 x470002 x9) x11]) (wrap64 (x11 + 1)) x470000 x470001 x470002 x470003) else (none)))) else (spec_IsFiniteSet.l4 k x5 x9 x10 (wrap64 (x11 + 1)) x470000 x470001 x470002 x470003)) else (none)) else (none)) else (none)) else (none)) else (none)) else (none)) else (if x11 > 0 then (if 0 ≤ x9 then (if x9 < (x470002.length : Int) then (if 0 ≤ x11 then (if x11 < ((rd_L1 x470002 x9).length : Int) then (if 0 ≤ (rd (rd_L1 x470002 x9) x11) then (if (rd (rd_L1 x470002 x9) x11) < (x5.length : Int) then (if rdOf false x5 (rd (rd_L1 x470002 x9) x11) = true then ((spec_l4Has.f k x10 (rd (rd_L1 x470002 x9) x11)).bind fun t505 => (if t505 = true then (spec_IsFiniteSet.l4 k x5 x9 x10 (wrap64 (x11 + 1)) x470000 x470001 x470002 x470003) else (if x10.length < 17592186044416 then (spec_IsFiniteSet.l4 k x5 x9 (x10 ++ [rd (rd_L1 x470002 x9) x11]) (wrap64 (x11 + 1)) x470000 x470001 x470002 x470003) else (none)))) else (spec_IsFiniteSet.l4 k x5 x9 x10 (wrap64 (x11 + 1)) x470000 x470001 x470002 x470003)) else (none)) else (none)) else (none)) else (none)) else (none)) else (none)) else (spec_IsFiniteSet.l4 k x5 x9 x10 (wrap64 (x11 + 1)) x470000 x470001 x470002 x470003))) else (spec_IsFiniteSet.l5 k x5 x9 x10 0 x470000 x470001 x470002 x470003)
def spec_IsFiniteSet.l5 : Nat → List Bool → Int → List Int → Int → Int → Int → List (List Int) → List Bool → Option (Bool)
 | 0, _, _, _, _, _, _, _, _ => none
 | k + 1, x5, x9, x10, x12, x470000, x470001, x470002, x470003 => if x12 < (x10.length : Int) then (if 0 ≤ x12 then (if (rd x10 x12) = x9 then (some false) else (spec_IsFiniteSet.l6 k x5 x9 x10 x12 0 x470000 x470001 x470002 x470003)) else (none)) else (spec_IsFiniteSet.l3 k x5 (wrap64 (x9 + 1)) x470000 x470001 x470002 x470003)
def spec_IsFiniteSet.l6 : Nat → List Bool → Int → List Int → Int → Int → Int → Int → List (List Int) → List Bool → Option (Bool)
 | 0, _, _, _, _, _, _, _, _, _ => none
 | k + 1, x5, x9, x10, x12, x13, x470000, x470001, x470002, x470003 => if 0 ≤ x12 then (if x12 < (x10.length : Int) then (if 0 ≤ (rd x10 x12) then (if (rd x10 x12) < (x470002.length : Int) then (if x13 < ((rd_L1 x470002 (rd x10 x12)).length : Int) then (if 0 ≤ x13 then (if (rd x10 x12) > 0 then (if 0 ≤ (rd (rd_L1 x470002 (rd x10 x12)) x13) then (if (rd (rd_L1 x470002 (rd x10 x12)) x13) < (x5.length : Int) then (if rdOf false x5 (rd (rd_L1 x470002 (rd x10 x12)) x13) = true then ((spec_l4Has.f k x10 (rd (rd_L1 x470002 (rd x10 x12)) x13)).bind fun t519 => (if t519 = true then (spec_IsFiniteSet.l6 k x5 x9 x10 x12 (wrap64 (x13 + 1)) x470000 x470001 x470002 x470003) else (if x10.length < 17592186044416 then (spec_IsFiniteSet.l6 k x5 x9 (x10 ++ [rd (rd_L1 x470002 (rd x10 x12)) x13]) x12 (wrap64 (x13 + 1)) x470000 x470001 x470002 x470003) else (none)))) else (spec_IsFiniteSet.l6 k x5 x9 x10 x12 (wrap64 (x13 + 1)) x470000 x470001 x470002 x470003)) else (none)) else (none)) else (if x13 > 0 then (if 0 ≤ (rd (rd_L1 x470002 (rd x10 x12)) x13) then (if (rd (rd_L1 x470002 (rd x10 x12)) x13) < (x5.length : Int) then (if rdOf false x5 (rd (rd_L1 x470002 (rd x10 x12)) x13) = true then ((spec_l4Has.f k x10 (rd (rd_L1 x470002 (rd x10 x12)) x13)).bind fun t524 => (if t524 = true then (spec_IsFiniteSet.l6 k x5 x9 x10 x12 (wrap64 (x13 + 1)) x470000 x470001 x470002 x470003) else (if x10.length < 17592186044416 then (spec_IsFiniteSet.l6 k x5 x9 (x10 ++ [rd (rd_L1 x470002 (rd x10 x12)) x13]) x12 (wrap64 (x13 + 1)) x470000 x470001 x470002 x470003) else (none)))) else (spec_IsFiniteSet.l6 k x5 x9 x10 x12 (wrap64 (x13 + 1)) x470000 x470001 x470002 x470003)) else (none)) else (none)) else (spec_IsFiniteSet.l6 k x5 x9 x10 x12 (wrap64 (x13 + 1)) x470000 x470001 x470002 x470003))) else (none)) else (spec_IsFiniteSet.l5 k x5 x9 x10 (wrap64 (x12 + 1)) x470000 x470001 x470002 x470003)) else (none)) else (none)) else (none)) else (none)
end
def spec_IsFiniteSet.f (k : Nat) (a0_0 : Int) (a0_1 : Int) (l0_2 : List (List Int)) (l0_3 : List Bool) : Option (Bool) := (spec_ReducedRelation.f k a0_0 a0_1 l0_2 l0_3).bind fun bt460 => (if bt460.2.2.2.2 = true then (if 0 ≤ (bt460.2.2.1.length : Int) then (if ((bt460.2.2.1.length : Int) : Int).toNat ≤ 281474976710656 then (spec_IsFiniteSet.l0 k (List.replicate ((bt460.2.2.1.length : Int) : Int).toNat false) 0 bt460.1 bt460.2.1 bt460.2.2.1 bt460.2.2.2.1) else (none)) else (none)) else (some false))
end Go.Proofs.Ytefelghmmpmigaa.Q
