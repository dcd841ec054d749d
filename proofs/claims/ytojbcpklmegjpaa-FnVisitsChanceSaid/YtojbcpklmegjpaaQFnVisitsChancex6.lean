-- written by a program of this session, over the form of the kit's print
import Derived.Test.YtojbcpklmegjpaaQFnVisitsChancex0
import Derived.Test.YtojbcpklmegjpaaQFnVisitsChancex1
import Derived.Test.YtojbcpklmegjpaaQFnVisitsChancex2
import Derived.Test.YtojbcpklmegjpaaQFnVisitsChancex3
import Derived.Test.YtojbcpklmegjpaaQFnVisitsChancex4
import Derived.Test.YtojbcpklmegjpaaQFnVisitsChancex5
namespace Go.Proofs.Ytojbcpklmegjpaa.QFnVisitsChance
open Go.RowKit Go.Proofs.YtojbcpklmegjpaaV Go.Proofs.YtojbcpklmegjpaaW.PrintWords Go.Proofs.YtojbcpklmegjpaaW.PrintLast Go.Proofs.YtojbcpklmegjpaaW.PrintMore
attribute [local go_sem] max2_int min2_int max_two min_two max_three min_three max_four min_four   -- for this text's walks alone
set_option linter.unusedVariables false
set_option linter.unusedSimpArgs false

/-! ### laws_FnVisitsChance: function 5 -/
mutual
def laws_FnVisitsChance.j0 : Nat → List Int → Int → Int → Int → Int → Bool → Int → Int → Bool → Option (Bool)
 | 0, _, _, _, _, _, _, _, _, _ => none
 | k + 1, x1, x5, x6, x7, x8, x9, x12, x13, x151 => if x151 = true then (some false) else (if x9 = true then ((impl_CountTogether.f k x5 x7 x6).bind fun bt304 => ((laws_yLow.f k x12 x13).bind fun t306 => (if t306 = true then (if (wrap64 ((wrap64 (x12 * x5)) * x5)) = (wrap64 (x13 * x8)) then (if bt304.2 = true then (if bt304.1 = x8 then (if x8 < x5 then (laws_FnVisitsChance.j1 k x1 x5 x6 x7 x8 true) else (laws_FnVisitsChance.j1 k x1 x5 x6 x7 x8 (decide (x8 > (wrap64 (x5 * x5)))))) else (laws_FnVisitsChance.j1 k x1 x5 x6 x7 x8 true)) else (laws_FnVisitsChance.j1 k x1 x5 x6 x7 x8 true)) else (laws_FnVisitsChance.j1 k x1 x5 x6 x7 x8 true)) else (laws_FnVisitsChance.j1 k x1 x5 x6 x7 x8 true)))) else (laws_FnVisitsChance.j5 k x1))
def laws_FnVisitsChance.j5 : Nat → List Int → Option (Bool)
 | 0, _ => none
 | k + 1, x1 => (spec_DrawEvenChance.f x1).bind fun bt311 => ((impl_EvenChance.f k bt311.1 bt311.2).bind fun bt313 => ((spec_EvenChance.f k bt311.1 bt311.2).bind fun bt316 => ((spec_DrawChanceOfStays.f x1).bind fun bt319 => ((impl_ChanceOfStays.f k bt319.1 bt319.2.1 bt319.2.2).bind fun bt322 => ((spec_ChanceOfStays.f k bt319.1 bt319.2.1 bt319.2.2).bind fun bt325 => ((spec_DrawLeastStay.f x1).bind fun bt328 => ((impl_LeastStay.f k bt328.1 bt328.2.1 bt328.2.2).bind fun bt331 => ((spec_LeastStay.f k bt328.1 bt328.2.1 bt328.2.2).bind fun bt333 => ((spec_DrawCountAllWithin.f x1).bind fun bt335 => ((impl_CountAllWithin.f k bt335.1 bt335.2.1 bt335.2.2).bind fun bt338 => ((spec_CountAllWithin.f k bt335.1 bt335.2.1 bt335.2.2).bind fun bt340 => ((spec_DrawMeanApart.f x1).bind fun t342 => ((impl_MeanApart.f k t342).bind fun bt343 => ((spec_MeanApart.f k t342).bind fun bt346 => ((spec_DrawCountApart.f x1).bind fun bt349 => ((impl_CountApart.f k bt349.1 bt349.2).bind fun bt351 => ((spec_CountApart.f k bt349.1 bt349.2).bind fun bt353 => (if (bt313.2.2 != bt316.2.2) = true then (laws_FnVisitsChance.j6 k bt311.1 bt311.2 bt313.1 bt313.2.1 bt313.2.2 bt319.1 bt319.2.1 bt319.2.2 bt322.1 bt322.2.1 bt322.2.2 bt328.1 bt328.2.1 bt328.2.2 bt331.1 bt331.2 bt335.1 bt335.2.1 bt335.2.2 bt338.1 bt338.2 t342 bt343.1 bt343.2.1 bt343.2.2 true) else (if bt313.1 = bt316.1 then (if bt313.2.1 = bt316.2.1 then (if (bt322.2.2 != bt325.2.2) = true then (laws_FnVisitsChance.j6 k bt311.1 bt311.2 bt313.1 bt313.2.1 bt313.2.2 bt319.1 bt319.2.1 bt319.2.2 bt322.1 bt322.2.1 bt322.2.2 bt328.1 bt328.2.1 bt328.2.2 bt331.1 bt331.2 bt335.1 bt335.2.1 bt335.2.2 bt338.1 bt338.2 t342 bt343.1 bt343.2.1 bt343.2.2 true) else (if bt322.1 = bt325.1 then (if bt322.2.1 = bt325.2.1 then (if (bt331.2 != bt333.2) = true then (laws_FnVisitsChance.j6 k bt311.1 bt311.2 bt313.1 bt313.2.1 bt313.2.2 bt319.1 bt319.2.1 bt319.2.2 bt322.1 bt322.2.1 bt322.2.2 bt328.1 bt328.2.1 bt328.2.2 bt331.1 bt331.2 bt335.1 bt335.2.1 bt335.2.2 bt338.1 bt338.2 t342 bt343.1 bt343.2.1 bt343.2.2 true) else (if bt331.1 = bt333.1 then (if (bt338.2 != bt340.2) = true then (laws_FnVisitsChance.j6 k bt311.1 bt311.2 bt313.1 bt313.2.1 bt313.2.2 bt319.1 bt319.2.1 bt319.2.2 bt322.1 bt322.2.1 bt322.2.2 bt328.1 bt328.2.1 bt328.2.2 bt331.1 bt331.2 bt335.1 bt335.2.1 bt335.2.2 bt338.1 bt338.2 t342 bt343.1 bt343.2.1 bt343.2.2 true) else (if bt338.1 = bt340.1 then (if (bt343.2.2 != bt346.2.2) = true then (laws_FnVisitsChance.j6 k bt311.1 bt311.2 bt313.1 bt313.2.1 bt313.2.2 bt319.1 bt319.2.1 bt319.2.2 bt322.1 bt322.2.1 bt322.2.2 bt328.1 bt328.2.1 bt328.2.2 bt331.1 bt331.2 bt335.1 bt335.2.1 bt335.2.2 bt338.1 bt338.2 t342 bt343.1 bt343.2.1 bt343.2.2 true) else (if bt343.1 = bt346.1 then (if bt343.2.1 = bt346.2.1 then (if (bt351.2 != bt353.2) = true then (laws_FnVisitsChance.j6 k bt311.1 bt311.2 bt313.1 bt313.2.1 bt313.2.2 bt319.1 bt319.2.1 bt319.2.2 bt322.1 bt322.2.1 bt322.2.2 bt328.1 bt328.2.1 bt328.2.2 bt331.1 bt331.2 bt335.1 bt335.2.1 bt335.2.2 bt338.1 bt338.2 t342 bt343.1 bt343.2.1 bt343.2.2 true) else (laws_FnVisitsChance.j6 k bt311.1 bt311.2 bt313.1 bt313.2.1 bt313.2.2 bt319.1 bt319.2.1 bt319.2.2 bt322.1 bt322.2.1 bt322.2.2 bt328.1 bt328.2.1 bt328.2.2 bt331.1 bt331.2 bt335.1 bt335.2.1 bt335.2.2 bt338.1 bt338.2 t342 bt343.1 bt343.2.1 bt343.2.2 (bt351.1 != bt353.1))) else (laws_FnVisitsChance.j6 k bt311.1 bt311.2 bt313.1 bt313.2.1 bt313.2.2 bt319.1 bt319.2.1 bt319.2.2 bt322.1 bt322.2.1 bt322.2.2 bt328.1 bt328.2.1 bt328.2.2 bt331.1 bt331.2 bt335.1 bt335.2.1 bt335.2.2 bt338.1 bt338.2 t342 bt343.1 bt343.2.1 bt343.2.2 true)) else (laws_FnVisitsChance.j6 k bt311.1 bt311.2 bt313.1 bt313.2.1 bt313.2.2 bt319.1 bt319.2.1 bt319.2.2 bt322.1 bt322.2.1 bt322.2.2 bt328.1 bt328.2.1 bt328.2.2 bt331.1 bt331.2 bt335.1 bt335.2.1 bt335.2.2 bt338.1 bt338.2 t342 bt343.1 bt343.2.1 bt343.2.2 true))) else (laws_FnVisitsChance.j6 k bt311.1 bt311.2 bt313.1 bt313.2.1 bt313.2.2 bt319.1 bt319.2.1 bt319.2.2 bt322.1 bt322.2.1 bt322.2.2 bt328.1 bt328.2.1 bt328.2.2 bt331.1 bt331.2 bt335.1 bt335.2.1 bt335.2.2 bt338.1 bt338.2 t342 bt343.1 bt343.2.1 bt343.2.2 true))) else (laws_FnVisitsChance.j6 k bt311.1 bt311.2 bt313.1 bt313.2.1 bt313.2.2 bt319.1 bt319.2.1 bt319.2.2 bt322.1 bt322.2.1 bt322.2.2 bt328.1 bt328.2.1 bt328.2.2 bt331.1 bt331.2 bt335.1 bt335.2.1 bt335.2.2 bt338.1 bt338.2 t342 bt343.1 bt343.2.1 bt343.2.2 true))) else (laws_FnVisitsChance.j6 k bt311.1 bt311.2 bt313.1 bt313.2.1 bt313.2.2 bt319.1 bt319.2.1 bt319.2.2 bt322.1 bt322.2.1 bt322.2.2 bt328.1 bt328.2.1 bt328.2.2 bt331.1 bt331.2 bt335.1 bt335.2.1 bt335.2.2 bt338.1 bt338.2 t342 bt343.1 bt343.2.1 bt343.2.2 true)) else (laws_FnVisitsChance.j6 k bt311.1 bt311.2 bt313.1 bt313.2.1 bt313.2.2 bt319.1 bt319.2.1 bt319.2.2 bt322.1 bt322.2.1 bt322.2.2 bt328.1 bt328.2.1 bt328.2.2 bt331.1 bt331.2 bt335.1 bt335.2.1 bt335.2.2 bt338.1 bt338.2 t342 bt343.1 bt343.2.1 bt343.2.2 true))) else (laws_FnVisitsChance.j6 k bt311.1 bt311.2 bt313.1 bt313.2.1 bt313.2.2 bt319.1 bt319.2.1 bt319.2.2 bt322.1 bt322.2.1 bt322.2.2 bt328.1 bt328.2.1 bt328.2.2 bt331.1 bt331.2 bt335.1 bt335.2.1 bt335.2.2 bt338.1 bt338.2 t342 bt343.1 bt343.2.1 bt343.2.2 true)) else (laws_FnVisitsChance.j6 k bt311.1 bt311.2 bt313.1 bt313.2.1 bt313.2.2 bt319.1 bt319.2.1 bt319.2.2 bt322.1 bt322.2.1 bt322.2.2 bt328.1 bt328.2.1 bt328.2.2 bt331.1 bt331.2 bt335.1 bt335.2.1 bt335.2.2 bt338.1 bt338.2 t342 bt343.1 bt343.2.1 bt343.2.2 true))))))))))))))))))))
def laws_FnVisitsChance.j6 : Nat → Int → Int → Int → Int → Bool → Int → Int → Int → Int → Int → Bool → Int → Int → Int → Int → Bool → Int → Int → Int → Int → Bool → Int → Int → Int → Bool → Bool → Option (Bool)
 | 0, _, _, _, _, _, _, _, _, _, _, _, _, _, _, _, _, _, _, _, _, _, _, _, _, _, _ => none
 | k + 1, x26, x27, x28, x29, x30, x34, x35, x36, x37, x38, x39, x43, x44, x45, x46, x47, x50, x51, x52, x53, x54, x57, x58, x59, x60, x426 => if x426 = true then (some false) else (if x30 = true then ((laws_yLow.f k x28 x29).bind fun t355 => (if t355 = true then (laws_FnVisitsChance.j7 k x34 x35 x36 x37 x38 x39 x43 x44 x45 x46 x47 x50 x51 x52 x53 x54 x57 x58 x59 x60 ((wrap64 ((wrap64 (x28 * x26)) * x26)) != (wrap64 (x29 * (wrap64 ((wrap64 (x26 * x26)) - (wrap64 ((wrap64 (x26 - x27)) * (wrap64 (x26 - x27)))))))))) else (laws_FnVisitsChance.j7 k x34 x35 x36 x37 x38 x39 x43 x44 x45 x46 x47 x50 x51 x52 x53 x54 x57 x58 x59 x60 true))) else (laws_FnVisitsChance.j7 k x34 x35 x36 x37 x38 x39 x43 x44 x45 x46 x47 x50 x51 x52 x53 x54 x57 x58 x59 x60 false))
def laws_FnVisitsChance.j7 : Nat → Int → Int → Int → Int → Int → Bool → Int → Int → Int → Int → Bool → Int → Int → Int → Int → Bool → Int → Int → Int → Bool → Bool → Option (Bool)
 | 0, _, _, _, _, _, _, _, _, _, _, _, _, _, _, _, _, _, _, _, _, _ => none
 | k + 1, x34, x35, x36, x37, x38, x39, x43, x44, x45, x46, x47, x50, x51, x52, x53, x54, x57, x58, x59, x60, x454 => if x454 = true then (some false) else (if x39 = true then ((impl_ChanceOfStays.f k x34 x36 x35).bind fun bt356 => ((laws_yLow.f k x37 x38).bind fun t359 => (if t359 = true then (if bt356.2.2 = true then (if bt356.1 = x37 then (if bt356.2.1 = x38 then (if x37 > x38 then (some false) else (laws_FnVisitsChance.j8 k x43 x44 x45 x46 x47 x50 x51 x52 x53 x54 x57 x58 x59 x60)) else (some false)) else (some false)) else (some false)) else (some false)))) else (laws_FnVisitsChance.j8 k x43 x44 x45 x46 x47 x50 x51 x52 x53 x54 x57 x58 x59 x60))
def laws_FnVisitsChance.j8 : Nat → Int → Int → Int → Int → Bool → Int → Int → Int → Int → Bool → Int → Int → Int → Bool → Option (Bool)
 | 0, _, _, _, _, _, _, _, _, _, _, _, _, _, _ => none
 | k + 1, x43, x44, x45, x46, x47, x50, x51, x52, x53, x54, x57, x58, x59, x60 => if x47 = true then ((impl_EvenChance.f k x43 x46).bind fun bt360 => (if bt360.2.2 = true then (laws_FnVisitsChance.j9 k x43 x44 x45 x46 x50 x51 x52 x53 x54 x57 x58 x59 x60 (decide ((wrap64 (bt360.1 * x45)) < (wrap64 (x44 * bt360.2.1))))) else (laws_FnVisitsChance.j9 k x43 x44 x45 x46 x50 x51 x52 x53 x54 x57 x58 x59 x60 true))) else (laws_FnVisitsChance.j10 k x50 x51 x52 x53 x54 x57 x58 x59 x60)
def laws_FnVisitsChance.j10 : Nat → Int → Int → Int → Int → Bool → Int → Int → Int → Bool → Option (Bool)
 | 0, _, _, _, _, _, _, _, _, _ => none
 | k + 1, x50, x51, x52, x53, x54, x57, x58, x59, x60 => if x54 = true then (laws_FnVisitsChance.l1 k x50 x51 x52 x53 x57 x58 x59 x60 1 0) else (laws_FnVisitsChance.j12 k x57 x58 x59 x60)
def laws_FnVisitsChance.j12 : Nat → Int → Int → Int → Bool → Option (Bool)
 | 0, _, _, _, _ => none
 | k + 1, x57, x58, x59, x60 => if x60 = true then (laws_FnVisitsChance.l2 k x57 x58 x59 0 0) else (some true)
def laws_FnVisitsChance.l2 : Nat → Int → Int → Int → Int → Int → Option (Bool)
 | 0, _, _, _, _, _ => none
 | k + 1, x57, x58, x59, x81, x82 => if x82 < x57 then ((impl_CountApart.f k x57 x82).bind fun bt366 => (if bt366.2 = true then (laws_FnVisitsChance.l2 k x57 x58 x59 (wrap64 (x81 + (wrap64 (x82 * bt366.1)))) (wrap64 (x82 + 1))) else (some false))) else ((laws_yLow.f k x58 x59).bind fun t368 => (if t368 = true then (if (wrap64 ((wrap64 (x58 * x57)) * x57)) = (wrap64 (x59 * x81)) then (some true) else (some false)) else (some false)))
def laws_FnVisitsChance.l1 : Nat → Int → Int → Int → Int → Int → Int → Int → Bool → Int → Int → Option (Bool)
 | 0, _, _, _, _, _, _, _, _, _, _ => none
 | k + 1, x50, x51, x52, x53, x57, x58, x59, x60, x79, x80 => if x80 < x51 then (laws_FnVisitsChance.l1 k x50 x51 x52 x53 x57 x58 x59 x60 (wrap64 (x79 * x50)) (wrap64 (x80 + 1))) else (if x53 < x50 then (some false) else (if x53 > x79 then (some false) else (if x52 ≥ (wrap64 (x50 - 1)) then (if (true != (x53 == x79)) = true then (some false) else (laws_FnVisitsChance.j12 k x57 x58 x59 x60)) else (if ((x51 == 1) != (x53 == x79)) = true then (some false) else (laws_FnVisitsChance.j12 k x57 x58 x59 x60)))))
def laws_FnVisitsChance.j9 : Nat → Int → Int → Int → Int → Int → Int → Int → Int → Bool → Int → Int → Int → Bool → Bool → Option (Bool)
 | 0, _, _, _, _, _, _, _, _, _, _, _, _, _, _ => none
 | k + 1, x43, x44, x45, x46, x50, x51, x52, x53, x54, x57, x58, x59, x60, x505 => if x505 = true then (some false) else (if x46 > 0 then ((impl_EvenChance.f k x43 (wrap64 (x46 - 1))).bind fun bt363 => (if bt363.2.2 = true then (if (wrap64 (bt363.1 * x45)) ≥ (wrap64 (x44 * bt363.2.1)) then (some false) else (laws_FnVisitsChance.j10 k x50 x51 x52 x53 x54 x57 x58 x59 x60)) else (some false))) else (laws_FnVisitsChance.j10 k x50 x51 x52 x53 x54 x57 x58 x59 x60))
def laws_FnVisitsChance.j1 : Nat → List Int → Int → Int → Int → Int → Bool → Option (Bool)
 | 0, _, _, _, _, _, _ => none
 | k + 1, x1, x5, x6, x7, x8, x195 => if x195 = true then (some false) else (if x6 = x7 then (laws_FnVisitsChance.l0 k x1 x5 x6 x8 0 0) else (laws_FnVisitsChance.j5 k x1))
def laws_FnVisitsChance.l0 : Nat → List Int → Int → Int → Int → Int → Int → Option (Bool)
 | 0, _, _, _, _, _, _ => none
 | k + 1, x1, x5, x6, x8, x20, x21 => if x21 ≤ x6 then (laws_FnVisitsChance.j3 k x1 x5 x6 x8 x20 x21 (decide (x21 < x5))) else (laws_FnVisitsChance.j3 k x1 x5 x6 x8 x20 x21 false)
def laws_FnVisitsChance.j3 : Nat → List Int → Int → Int → Int → Int → Int → Bool → Option (Bool)
 | 0, _, _, _, _, _, _, _ => none
 | k + 1, x1, x5, x6, x8, x20, x21, x206 => if x206 = true then ((impl_CountApart.f k x5 x21).bind fun bt307 => (if bt307.2 = true then (laws_FnVisitsChance.l0 k x1 x5 x6 x8 (wrap64 (x20 + bt307.1)) (wrap64 (x21 + 1))) else (some false))) else (if x20 = x8 then (if x5 ≤ 50 then (laws_FnVisitsChance.j4 k x1 x5 x6 x8 (decide (x6 ≤ 50))) else (laws_FnVisitsChance.j4 k x1 x5 x6 x8 false)) else (some false))
def laws_FnVisitsChance.j4 : Nat → List Int → Int → Int → Int → Bool → Option (Bool)
 | 0, _, _, _, _, _ => none
 | k + 1, x1, x5, x6, x8, x228 => if x228 = true then ((impl_CountAllWithin.f k x5 2 x6).bind fun bt309 => (if bt309.2 = true then (if bt309.1 = x8 then (laws_FnVisitsChance.j5 k x1) else (some false)) else (some false))) else (laws_FnVisitsChance.j5 k x1)
end
def laws_FnVisitsChance.f (k : Nat) (l0 : List Int) (l1 : List Int) : Option (Bool) := (laws_big.f l0 l1).bind fun t290 => (if t290 = true then (some true) else ((spec_DrawCountTogether.f l0).bind fun bt291 => ((impl_CountTogether.f k bt291.1 bt291.2.1 bt291.2.2).bind fun bt294 => ((spec_CountTogether.f k bt291.1 bt291.2.1 bt291.2.2).bind fun bt296 => ((impl_ChanceTogether.f k bt291.1 bt291.2.1 bt291.2.2).bind fun bt298 => ((spec_ChanceTogether.f k bt291.1 bt291.2.1 bt291.2.2).bind fun bt301 => (if (bt294.2 != bt296.2) = true then (laws_FnVisitsChance.j0 k l1 bt291.1 bt291.2.1 bt291.2.2 bt294.1 bt294.2 bt298.1 bt298.2.1 true) else (if bt294.1 = bt296.1 then (if (bt298.2.2 != bt301.2.2) = true then (laws_FnVisitsChance.j0 k l1 bt291.1 bt291.2.1 bt291.2.2 bt294.1 bt294.2 bt298.1 bt298.2.1 true) else (if bt298.1 = bt301.1 then (if bt298.2.1 = bt301.2.1 then (laws_FnVisitsChance.j0 k l1 bt291.1 bt291.2.1 bt291.2.2 bt294.1 bt294.2 bt298.1 bt298.2.1 (bt298.2.2 != bt294.2)) else (laws_FnVisitsChance.j0 k l1 bt291.1 bt291.2.1 bt291.2.2 bt294.1 bt294.2 bt298.1 bt298.2.1 true)) else (laws_FnVisitsChance.j0 k l1 bt291.1 bt291.2.1 bt291.2.2 bt294.1 bt294.2 bt298.1 bt298.2.1 true))) else (laws_FnVisitsChance.j0 k l1 bt291.1 bt291.2.1 bt291.2.2 bt294.1 bt294.2 bt298.1 bt298.2.1 true)))))))))
theorem laws_FnVisitsChance.mono_l : ∀ k, (∀ y0 y1 y2 y3 y4 y5 y6 y7 y8, LeO (laws_FnVisitsChance.j0 k y0 y1 y2 y3 y4 y5 y6 y7 y8) (laws_FnVisitsChance.j0 (k + 1) y0 y1 y2 y3 y4 y5 y6 y7 y8)) ∧ (∀ y0, LeO (laws_FnVisitsChance.j5 k y0) (laws_FnVisitsChance.j5 (k + 1) y0)) ∧ (∀ y0 y1 y2 y3 y4 y5 y6 y7 y8 y9 y10 y11 y12 y13 y14 y15 y16 y17 y18 y19 y20 y21 y22 y23 y24 y25, LeO (laws_FnVisitsChance.j6 k y0 y1 y2 y3 y4 y5 y6 y7 y8 y9 y10 y11 y12 y13 y14 y15 y16 y17 y18 y19 y20 y21 y22 y23 y24 y25) (laws_FnVisitsChance.j6 (k + 1) y0 y1 y2 y3 y4 y5 y6 y7 y8 y9 y10 y11 y12 y13 y14 y15 y16 y17 y18 y19 y20 y21 y22 y23 y24 y25)) ∧ (∀ y0 y1 y2 y3 y4 y5 y6 y7 y8 y9 y10 y11 y12 y13 y14 y15 y16 y17 y18 y19 y20, LeO (laws_FnVisitsChance.j7 k y0 y1 y2 y3 y4 y5 y6 y7 y8 y9 y10 y11 y12 y13 y14 y15 y16 y17 y18 y19 y20) (laws_FnVisitsChance.j7 (k + 1) y0 y1 y2 y3 y4 y5 y6 y7 y8 y9 y10 y11 y12 y13 y14 y15 y16 y17 y18 y19 y20)) ∧ (∀ y0 y1 y2 y3 y4 y5 y6 y7 y8 y9 y10 y11 y12 y13, LeO (laws_FnVisitsChance.j8 k y0 y1 y2 y3 y4 y5 y6 y7 y8 y9 y10 y11 y12 y13) (laws_FnVisitsChance.j8 (k + 1) y0 y1 y2 y3 y4 y5 y6 y7 y8 y9 y10 y11 y12 y13)) ∧ (∀ y0 y1 y2 y3 y4 y5 y6 y7 y8, LeO (laws_FnVisitsChance.j10 k y0 y1 y2 y3 y4 y5 y6 y7 y8) (laws_FnVisitsChance.j10 (k + 1) y0 y1 y2 y3 y4 y5 y6 y7 y8)) ∧ (∀ y0 y1 y2 y3, LeO (laws_FnVisitsChance.j12 k y0 y1 y2 y3) (laws_FnVisitsChance.j12 (k + 1) y0 y1 y2 y3)) ∧ (∀ y0 y1 y2 y3 y4, LeO (laws_FnVisitsChance.l2 k y0 y1 y2 y3 y4) (laws_FnVisitsChance.l2 (k + 1) y0 y1 y2 y3 y4)) ∧ (∀ y0 y1 y2 y3 y4 y5 y6 y7 y8 y9, LeO (laws_FnVisitsChance.l1 k y0 y1 y2 y3 y4 y5 y6 y7 y8 y9) (laws_FnVisitsChance.l1 (k + 1) y0 y1 y2 y3 y4 y5 y6 y7 y8 y9)) ∧ (∀ y0 y1 y2 y3 y4 y5 y6 y7 y8 y9 y10 y11 y12 y13, LeO (laws_FnVisitsChance.j9 k y0 y1 y2 y3 y4 y5 y6 y7 y8 y9 y10 y11 y12 y13) (laws_FnVisitsChance.j9 (k + 1) y0 y1 y2 y3 y4 y5 y6 y7 y8 y9 y10 y11 y12 y13)) ∧ (∀ y0 y1 y2 y3 y4 y5, LeO (laws_FnVisitsChance.j1 k y0 y1 y2 y3 y4 y5) (laws_FnVisitsChance.j1 (k + 1) y0 y1 y2 y3 y4 y5)) ∧ (∀ y0 y1 y2 y3 y4 y5, LeO (laws_FnVisitsChance.l0 k y0 y1 y2 y3 y4 y5) (laws_FnVisitsChance.l0 (k + 1) y0 y1 y2 y3 y4 y5)) ∧ (∀ y0 y1 y2 y3 y4 y5 y6, LeO (laws_FnVisitsChance.j3 k y0 y1 y2 y3 y4 y5 y6) (laws_FnVisitsChance.j3 (k + 1) y0 y1 y2 y3 y4 y5 y6)) ∧ (∀ y0 y1 y2 y3 y4, LeO (laws_FnVisitsChance.j4 k y0 y1 y2 y3 y4) (laws_FnVisitsChance.j4 (k + 1) y0 y1 y2 y3 y4))
 | 0 => ⟨fun _ _ _ _ _ _ _ _ _ r h => by simp [laws_FnVisitsChance.j0] at h, fun _ r h => by simp [laws_FnVisitsChance.j5] at h, fun _ _ _ _ _ _ _ _ _ _ _ _ _ _ _ _ _ _ _ _ _ _ _ _ _ _ r h => by simp [laws_FnVisitsChance.j6] at h, fun _ _ _ _ _ _ _ _ _ _ _ _ _ _ _ _ _ _ _ _ _ r h => by simp [laws_FnVisitsChance.j7] at h, fun _ _ _ _ _ _ _ _ _ _ _ _ _ _ r h => by simp [laws_FnVisitsChance.j8] at h, fun _ _ _ _ _ _ _ _ _ r h => by simp [laws_FnVisitsChance.j10] at h, fun _ _ _ _ r h => by simp [laws_FnVisitsChance.j12] at h, fun _ _ _ _ _ r h => by simp [laws_FnVisitsChance.l2] at h, fun _ _ _ _ _ _ _ _ _ _ r h => by simp [laws_FnVisitsChance.l1] at h, fun _ _ _ _ _ _ _ _ _ _ _ _ _ _ r h => by simp [laws_FnVisitsChance.j9] at h, fun _ _ _ _ _ _ r h => by simp [laws_FnVisitsChance.j1] at h, fun _ _ _ _ _ _ r h => by simp [laws_FnVisitsChance.l0] at h, fun _ _ _ _ _ _ _ r h => by simp [laws_FnVisitsChance.j3] at h, fun _ _ _ _ _ r h => by simp [laws_FnVisitsChance.j4] at h⟩
 | k + 1 => by
  obtain ⟨ih0, ih1, ih2, ih3, ih4, ih5, ih6, ih7, ih8, ih9, ih10, ih11, ih12, ih13⟩ := laws_FnVisitsChance.mono_l k
  refine ⟨?_, ?_, ?_, ?_, ?_, ?_, ?_, ?_, ?_, ?_, ?_, ?_, ?_, ?_⟩
  ·intro y0 y1 y2 y3 y4 y5 y6 y7 y8
   unfold laws_FnVisitsChance.j0
   repeat' first
   | (with_reducible exact ih0 _ _ _ _ _ _ _ _ _)
   | (with_reducible exact ih1 _)
   | (with_reducible exact ih2 _ _ _ _ _ _ _ _ _ _ _ _ _ _ _ _ _ _ _ _ _ _ _ _ _ _)
   | (with_reducible exact ih3 _ _ _ _ _ _ _ _ _ _ _ _ _ _ _ _ _ _ _ _ _)
   | (with_reducible exact ih4 _ _ _ _ _ _ _ _ _ _ _ _ _ _)
   | (with_reducible exact ih5 _ _ _ _ _ _ _ _ _)
   | (with_reducible exact ih6 _ _ _ _)
   | (with_reducible exact ih7 _ _ _ _ _)
   | (with_reducible exact ih8 _ _ _ _ _ _ _ _ _ _)
   | (with_reducible exact ih9 _ _ _ _ _ _ _ _ _ _ _ _ _ _)
   | (with_reducible exact ih10 _ _ _ _ _ _)
   | (with_reducible exact ih11 _ _ _ _ _ _)
   | (with_reducible exact ih12 _ _ _ _ _ _ _)
   | (with_reducible exact ih13 _ _ _ _ _)
   | (with_reducible exact impl_ChanceOfStays.mono _ _ _ _)
   | (with_reducible exact impl_ChanceTogether.mono _ _ _ _)
   | (with_reducible exact impl_CountAllWithin.mono _ _ _ _)
   | (with_reducible exact impl_CountApart.mono _ _ _)
   | (with_reducible exact impl_CountTogether.mono _ _ _ _)
   | (with_reducible exact impl_EvenChance.mono _ _ _)
   | (with_reducible exact impl_LeastStay.mono _ _ _ _)
   | (with_reducible exact impl_MeanApart.mono _ _)
   | (with_reducible exact laws_yLow.mono _ _ _)
   | (with_reducible exact spec_ChanceOfStays.mono _ _ _ _)
   | (with_reducible exact spec_ChanceTogether.mono _ _ _ _)
   | (with_reducible exact spec_CountAllWithin.mono _ _ _ _)
   | (with_reducible exact spec_CountApart.mono _ _ _)
   | (with_reducible exact spec_CountTogether.mono _ _ _ _)
   | (with_reducible exact spec_EvenChance.mono _ _ _)
   | (with_reducible exact spec_LeastStay.mono _ _ _ _)
   | (with_reducible exact spec_MeanApart.mono _ _)
   | (with_reducible exact LeO.refl _)
   | (with_reducible exact LeO.none _)
   | (with_reducible refine LeO.ite ?_ ?_)
   | (with_reducible refine LeO.bind ?_ (fun _ => ?_))
   | exact ih0 _ _ _ _ _ _ _ _ _
   | exact ih1 _
   | exact ih2 _ _ _ _ _ _ _ _ _ _ _ _ _ _ _ _ _ _ _ _ _ _ _ _ _ _
   | exact ih3 _ _ _ _ _ _ _ _ _ _ _ _ _ _ _ _ _ _ _ _ _
   | exact ih4 _ _ _ _ _ _ _ _ _ _ _ _ _ _
   | exact ih5 _ _ _ _ _ _ _ _ _
   | exact ih6 _ _ _ _
   | exact ih7 _ _ _ _ _
   | exact ih8 _ _ _ _ _ _ _ _ _ _
   | exact ih9 _ _ _ _ _ _ _ _ _ _ _ _ _ _
   | exact ih10 _ _ _ _ _ _
   | exact ih11 _ _ _ _ _ _
   | exact ih12 _ _ _ _ _ _ _
   | exact ih13 _ _ _ _ _
   | exact impl_ChanceOfStays.mono _ _ _ _
   | exact impl_ChanceTogether.mono _ _ _ _
   | exact impl_CountAllWithin.mono _ _ _ _
   | exact impl_CountApart.mono _ _ _
   | exact impl_CountTogether.mono _ _ _ _
   | exact impl_EvenChance.mono _ _ _
   | exact impl_LeastStay.mono _ _ _ _
   | exact impl_MeanApart.mono _ _
   | exact laws_yLow.mono _ _ _
   | exact spec_ChanceOfStays.mono _ _ _ _
   | exact spec_ChanceTogether.mono _ _ _ _
   | exact spec_CountAllWithin.mono _ _ _ _
   | exact spec_CountApart.mono _ _ _
   | exact spec_CountTogether.mono _ _ _ _
   | exact spec_EvenChance.mono _ _ _
   | exact spec_LeastStay.mono _ _ _ _
   | exact spec_MeanApart.mono _ _
   | exact LeO.none _
   | refine LeO.ite ?_ ?_
   | refine LeO.bind ?_ (fun _ => ?_)
  ·intro y0
   unfold laws_FnVisitsChance.j5
   repeat' first
   | (with_reducible exact ih0 _ _ _ _ _ _ _ _ _)
   | (with_reducible exact ih1 _)
   | (with_reducible exact ih2 _ _ _ _ _ _ _ _ _ _ _ _ _ _ _ _ _ _ _ _ _ _ _ _ _ _)
   | (with_reducible exact ih3 _ _ _ _ _ _ _ _ _ _ _ _ _ _ _ _ _ _ _ _ _)
   | (with_reducible exact ih4 _ _ _ _ _ _ _ _ _ _ _ _ _ _)
   | (with_reducible exact ih5 _ _ _ _ _ _ _ _ _)
   | (with_reducible exact ih6 _ _ _ _)
   | (with_reducible exact ih7 _ _ _ _ _)
   | (with_reducible exact ih8 _ _ _ _ _ _ _ _ _ _)
   | (with_reducible exact ih9 _ _ _ _ _ _ _ _ _ _ _ _ _ _)
   | (with_reducible exact ih10 _ _ _ _ _ _)
   | (with_reducible exact ih11 _ _ _ _ _ _)
   | (with_reducible exact ih12 _ _ _ _ _ _ _)
   | (with_reducible exact ih13 _ _ _ _ _)
   | (with_reducible exact impl_ChanceOfStays.mono _ _ _ _)
   | (with_reducible exact impl_ChanceTogether.mono _ _ _ _)
   | (with_reducible exact impl_CountAllWithin.mono _ _ _ _)
   | (with_reducible exact impl_CountApart.mono _ _ _)
   | (with_reducible exact impl_CountTogether.mono _ _ _ _)
   | (with_reducible exact impl_EvenChance.mono _ _ _)
   | (with_reducible exact impl_LeastStay.mono _ _ _ _)
   | (with_reducible exact impl_MeanApart.mono _ _)
   | (with_reducible exact laws_yLow.mono _ _ _)
   | (with_reducible exact spec_ChanceOfStays.mono _ _ _ _)
   | (with_reducible exact spec_ChanceTogether.mono _ _ _ _)
   | (with_reducible exact spec_CountAllWithin.mono _ _ _ _)
   | (with_reducible exact spec_CountApart.mono _ _ _)
   | (with_reducible exact spec_CountTogether.mono _ _ _ _)
   | (with_reducible exact spec_EvenChance.mono _ _ _)
   | (with_reducible exact spec_LeastStay.mono _ _ _ _)
   | (with_reducible exact spec_MeanApart.mono _ _)
   | (with_reducible exact LeO.refl _)
   | (with_reducible exact LeO.none _)
   | (with_reducible refine LeO.ite ?_ ?_)
   | (with_reducible refine LeO.bind ?_ (fun _ => ?_))
   | exact ih0 _ _ _ _ _ _ _ _ _
   | exact ih1 _
   | exact ih2 _ _ _ _ _ _ _ _ _ _ _ _ _ _ _ _ _ _ _ _ _ _ _ _ _ _
   | exact ih3 _ _ _ _ _ _ _ _ _ _ _ _ _ _ _ _ _ _ _ _ _
   | exact ih4 _ _ _ _ _ _ _ _ _ _ _ _ _ _
   | exact ih5 _ _ _ _ _ _ _ _ _
   | exact ih6 _ _ _ _
   | exact ih7 _ _ _ _ _
   | exact ih8 _ _ _ _ _ _ _ _ _ _
   | exact ih9 _ _ _ _ _ _ _ _ _ _ _ _ _ _
   | exact ih10 _ _ _ _ _ _
   | exact ih11 _ _ _ _ _ _
   | exact ih12 _ _ _ _ _ _ _
   | exact ih13 _ _ _ _ _
   | exact impl_ChanceOfStays.mono _ _ _ _
   | exact impl_ChanceTogether.mono _ _ _ _
   | exact impl_CountAllWithin.mono _ _ _ _
   | exact impl_CountApart.mono _ _ _
   | exact impl_CountTogether.mono _ _ _ _
   | exact impl_EvenChance.mono _ _ _
   | exact impl_LeastStay.mono _ _ _ _
   | exact impl_MeanApart.mono _ _
   | exact laws_yLow.mono _ _ _
   | exact spec_ChanceOfStays.mono _ _ _ _
   | exact spec_ChanceTogether.mono _ _ _ _
   | exact spec_CountAllWithin.mono _ _ _ _
   | exact spec_CountApart.mono _ _ _
   | exact spec_CountTogether.mono _ _ _ _
   | exact spec_EvenChance.mono _ _ _
   | exact spec_LeastStay.mono _ _ _ _
   | exact spec_MeanApart.mono _ _
   | exact LeO.none _
   | refine LeO.ite ?_ ?_
   | refine LeO.bind ?_ (fun _ => ?_)
  ·intro y0 y1 y2 y3 y4 y5 y6 y7 y8 y9 y10 y11 y12 y13 y14 y15 y16 y17 y18 y19 y20 y21 y22 y23 y24 y25
   unfold laws_FnVisitsChance.j6
   repeat' first
   | (with_reducible exact ih0 _ _ _ _ _ _ _ _ _)
   | (with_reducible exact ih1 _)
   | (with_reducible exact ih2 _ _ _ _ _ _ _ _ _ _ _ _ _ _ _ _ _ _ _ _ _ _ _ _ _ _)
   | (with_reducible exact ih3 _ _ _ _ _ _ _ _ _ _ _ _ _ _ _ _ _ _ _ _ _)
   | (with_reducible exact ih4 _ _ _ _ _ _ _ _ _ _ _ _ _ _)
   | (with_reducible exact ih5 _ _ _ _ _ _ _ _ _)
   | (with_reducible exact ih6 _ _ _ _)
   | (with_reducible exact ih7 _ _ _ _ _)
   | (with_reducible exact ih8 _ _ _ _ _ _ _ _ _ _)
   | (with_reducible exact ih9 _ _ _ _ _ _ _ _ _ _ _ _ _ _)
   | (with_reducible exact ih10 _ _ _ _ _ _)
   | (with_reducible exact ih11 _ _ _ _ _ _)
   | (with_reducible exact ih12 _ _ _ _ _ _ _)
   | (with_reducible exact ih13 _ _ _ _ _)
   | (with_reducible exact impl_ChanceOfStays.mono _ _ _ _)
   | (with_reducible exact impl_ChanceTogether.mono _ _ _ _)
   | (with_reducible exact impl_CountAllWithin.mono _ _ _ _)
   | (with_reducible exact impl_CountApart.mono _ _ _)
   | (with_reducible exact impl_CountTogether.mono _ _ _ _)
   | (with_reducible exact impl_EvenChance.mono _ _ _)
   | (with_reducible exact impl_LeastStay.mono _ _ _ _)
   | (with_reducible exact impl_MeanApart.mono _ _)
   | (with_reducible exact laws_yLow.mono _ _ _)
   | (with_reducible exact spec_ChanceOfStays.mono _ _ _ _)
   | (with_reducible exact spec_ChanceTogether.mono _ _ _ _)
   | (with_reducible exact spec_CountAllWithin.mono _ _ _ _)
   | (with_reducible exact spec_CountApart.mono _ _ _)
   | (with_reducible exact spec_CountTogether.mono _ _ _ _)
   | (with_reducible exact spec_EvenChance.mono _ _ _)
   | (with_reducible exact spec_LeastStay.mono _ _ _ _)
   | (with_reducible exact spec_MeanApart.mono _ _)
   | (with_reducible exact LeO.refl _)
   | (with_reducible exact LeO.none _)
   | (with_reducible refine LeO.ite ?_ ?_)
   | (with_reducible refine LeO.bind ?_ (fun _ => ?_))
   | exact ih0 _ _ _ _ _ _ _ _ _
   | exact ih1 _
   | exact ih2 _ _ _ _ _ _ _ _ _ _ _ _ _ _ _ _ _ _ _ _ _ _ _ _ _ _
   | exact ih3 _ _ _ _ _ _ _ _ _ _ _ _ _ _ _ _ _ _ _ _ _
   | exact ih4 _ _ _ _ _ _ _ _ _ _ _ _ _ _
   | exact ih5 _ _ _ _ _ _ _ _ _
   | exact ih6 _ _ _ _
   | exact ih7 _ _ _ _ _
   | exact ih8 _ _ _ _ _ _ _ _ _ _
   | exact ih9 _ _ _ _ _ _ _ _ _ _ _ _ _ _
   | exact ih10 _ _ _ _ _ _
   | exact ih11 _ _ _ _ _ _
   | exact ih12 _ _ _ _ _ _ _
   | exact ih13 _ _ _ _ _
   | exact impl_ChanceOfStays.mono _ _ _ _
   | exact impl_ChanceTogether.mono _ _ _ _
   | exact impl_CountAllWithin.mono _ _ _ _
   | exact impl_CountApart.mono _ _ _
   | exact impl_CountTogether.mono _ _ _ _
   | exact impl_EvenChance.mono _ _ _
   | exact impl_LeastStay.mono _ _ _ _
   | exact impl_MeanApart.mono _ _
   | exact laws_yLow.mono _ _ _
   | exact spec_ChanceOfStays.mono _ _ _ _
   | exact spec_ChanceTogether.mono _ _ _ _
   | exact spec_CountAllWithin.mono _ _ _ _
   | exact spec_CountApart.mono _ _ _
   | exact spec_CountTogether.mono _ _ _ _
   | exact spec_EvenChance.mono _ _ _
   | exact spec_LeastStay.mono _ _ _ _
   | exact spec_MeanApart.mono _ _
   | exact LeO.none _
   | refine LeO.ite ?_ ?_
   | refine LeO.bind ?_ (fun _ => ?_)
  ·intro y0 y1 y2 y3 y4 y5 y6 y7 y8 y9 y10 y11 y12 y13 y14 y15 y16 y17 y18 y19 y20
   unfold laws_FnVisitsChance.j7
   repeat' first
   | (with_reducible exact ih0 _ _ _ _ _ _ _ _ _)
   | (with_reducible exact ih1 _)
   | (with_reducible exact ih2 _ _ _ _ _ _ _ _ _ _ _ _ _ _ _ _ _ _ _ _ _ _ _ _ _ _)
   | (with_reducible exact ih3 _ _ _ _ _ _ _ _ _ _ _ _ _ _ _ _ _ _ _ _ _)
   | (with_reducible exact ih4 _ _ _ _ _ _ _ _ _ _ _ _ _ _)
   | (with_reducible exact ih5 _ _ _ _ _ _ _ _ _)
   | (with_reducible exact ih6 _ _ _ _)
   | (with_reducible exact ih7 _ _ _ _ _)
   | (with_reducible exact ih8 _ _ _ _ _ _ _ _ _ _)
   | (with_reducible exact ih9 _ _ _ _ _ _ _ _ _ _ _ _ _ _)
   | (with_reducible exact ih10 _ _ _ _ _ _)
   | (with_reducible exact ih11 _ _ _ _ _ _)
   | (with_reducible exact ih12 _ _ _ _ _ _ _)
   | (with_reducible exact ih13 _ _ _ _ _)
   | (with_reducible exact impl_ChanceOfStays.mono _ _ _ _)
   | (with_reducible exact impl_ChanceTogether.mono _ _ _ _)
   | (with_reducible exact impl_CountAllWithin.mono _ _ _ _)
   | (with_reducible exact impl_CountApart.mono _ _ _)
   | (with_reducible exact impl_CountTogether.mono _ _ _ _)
   | (with_reducible exact impl_EvenChance.mono _ _ _)
   | (with_reducible exact impl_LeastStay.mono _ _ _ _)
   | (with_reducible exact impl_MeanApart.mono _ _)
   | (with_reducible exact laws_yLow.mono _ _ _)
   | (with_reducible exact spec_ChanceOfStays.mono _ _ _ _)
   | (with_reducible exact spec_ChanceTogether.mono _ _ _ _)
   | (with_reducible exact spec_CountAllWithin.mono _ _ _ _)
   | (with_reducible exact spec_CountApart.mono _ _ _)
   | (with_reducible exact spec_CountTogether.mono _ _ _ _)
   | (with_reducible exact spec_EvenChance.mono _ _ _)
   | (with_reducible exact spec_LeastStay.mono _ _ _ _)
   | (with_reducible exact spec_MeanApart.mono _ _)
   | (with_reducible exact LeO.refl _)
   | (with_reducible exact LeO.none _)
   | (with_reducible refine LeO.ite ?_ ?_)
   | (with_reducible refine LeO.bind ?_ (fun _ => ?_))
   | exact ih0 _ _ _ _ _ _ _ _ _
   | exact ih1 _
   | exact ih2 _ _ _ _ _ _ _ _ _ _ _ _ _ _ _ _ _ _ _ _ _ _ _ _ _ _
   | exact ih3 _ _ _ _ _ _ _ _ _ _ _ _ _ _ _ _ _ _ _ _ _
   | exact ih4 _ _ _ _ _ _ _ _ _ _ _ _ _ _
   | exact ih5 _ _ _ _ _ _ _ _ _
   | exact ih6 _ _ _ _
   | exact ih7 _ _ _ _ _
   | exact ih8 _ _ _ _ _ _ _ _ _ _
   | exact ih9 _ _ _ _ _ _ _ _ _ _ _ _ _ _
   | exact ih10 _ _ _ _ _ _
   | exact ih11 _ _ _ _ _ _
   | exact ih12 _ _ _ _ _ _ _
   | exact ih13 _ _ _ _ _
   | exact impl_ChanceOfStays.mono _ _ _ _
   | exact impl_ChanceTogether.mono _ _ _ _
   | exact impl_CountAllWithin.mono _ _ _ _
   | exact impl_CountApart.mono _ _ _
   | exact impl_CountTogether.mono _ _ _ _
   | exact impl_EvenChance.mono _ _ _
   | exact impl_LeastStay.mono _ _ _ _
   | exact impl_MeanApart.mono _ _
   | exact laws_yLow.mono _ _ _
   | exact spec_ChanceOfStays.mono _ _ _ _
   | exact spec_ChanceTogether.mono _ _ _ _
   | exact spec_CountAllWithin.mono _ _ _ _
   | exact spec_CountApart.mono _ _ _
   | exact spec_CountTogether.mono _ _ _ _
   | exact spec_EvenChance.mono _ _ _
   | exact spec_LeastStay.mono _ _ _ _
   | exact spec_MeanApart.mono _ _
   | exact LeO.none _
   | refine LeO.ite ?_ ?_
   | refine LeO.bind ?_ (fun _ => ?_)
  ·intro y0 y1 y2 y3 y4 y5 y6 y7 y8 y9 y10 y11 y12 y13
   unfold laws_FnVisitsChance.j8
   repeat' first
   | (with_reducible exact ih0 _ _ _ _ _ _ _ _ _)
   | (with_reducible exact ih1 _)
   | (with_reducible exact ih2 _ _ _ _ _ _ _ _ _ _ _ _ _ _ _ _ _ _ _ _ _ _ _ _ _ _)
   | (with_reducible exact ih3 _ _ _ _ _ _ _ _ _ _ _ _ _ _ _ _ _ _ _ _ _)
   | (with_reducible exact ih4 _ _ _ _ _ _ _ _ _ _ _ _ _ _)
   | (with_reducible exact ih5 _ _ _ _ _ _ _ _ _)
   | (with_reducible exact ih6 _ _ _ _)
   | (with_reducible exact ih7 _ _ _ _ _)
   | (with_reducible exact ih8 _ _ _ _ _ _ _ _ _ _)
   | (with_reducible exact ih9 _ _ _ _ _ _ _ _ _ _ _ _ _ _)
   | (with_reducible exact ih10 _ _ _ _ _ _)
   | (with_reducible exact ih11 _ _ _ _ _ _)
   | (with_reducible exact ih12 _ _ _ _ _ _ _)
   | (with_reducible exact ih13 _ _ _ _ _)
   | (with_reducible exact impl_ChanceOfStays.mono _ _ _ _)
   | (with_reducible exact impl_ChanceTogether.mono _ _ _ _)
   | (with_reducible exact impl_CountAllWithin.mono _ _ _ _)
   | (with_reducible exact impl_CountApart.mono _ _ _)
   | (with_reducible exact impl_CountTogether.mono _ _ _ _)
   | (with_reducible exact impl_EvenChance.mono _ _ _)
   | (with_reducible exact impl_LeastStay.mono _ _ _ _)
   | (with_reducible exact impl_MeanApart.mono _ _)
   | (with_reducible exact laws_yLow.mono _ _ _)
   | (with_reducible exact spec_ChanceOfStays.mono _ _ _ _)
   | (with_reducible exact spec_ChanceTogether.mono _ _ _ _)
   | (with_reducible exact spec_CountAllWithin.mono _ _ _ _)
   | (with_reducible exact spec_CountApart.mono _ _ _)
   | (with_reducible exact spec_CountTogether.mono _ _ _ _)
   | (with_reducible exact spec_EvenChance.mono _ _ _)
   | (with_reducible exact spec_LeastStay.mono _ _ _ _)
   | (with_reducible exact spec_MeanApart.mono _ _)
   | (with_reducible exact LeO.refl _)
   | (with_reducible exact LeO.none _)
   | (with_reducible refine LeO.ite ?_ ?_)
   | (with_reducible refine LeO.bind ?_ (fun _ => ?_))
   | exact ih0 _ _ _ _ _ _ _ _ _
   | exact ih1 _
   | exact ih2 _ _ _ _ _ _ _ _ _ _ _ _ _ _ _ _ _ _ _ _ _ _ _ _ _ _
   | exact ih3 _ _ _ _ _ _ _ _ _ _ _ _ _ _ _ _ _ _ _ _ _
   | exact ih4 _ _ _ _ _ _ _ _ _ _ _ _ _ _
   | exact ih5 _ _ _ _ _ _ _ _ _
   | exact ih6 _ _ _ _
   | exact ih7 _ _ _ _ _
   | exact ih8 _ _ _ _ _ _ _ _ _ _
   | exact ih9 _ _ _ _ _ _ _ _ _ _ _ _ _ _
   | exact ih10 _ _ _ _ _ _
   | exact ih11 _ _ _ _ _ _
   | exact ih12 _ _ _ _ _ _ _
   | exact ih13 _ _ _ _ _
   | exact impl_ChanceOfStays.mono _ _ _ _
   | exact impl_ChanceTogether.mono _ _ _ _
   | exact impl_CountAllWithin.mono _ _ _ _
   | exact impl_CountApart.mono _ _ _
   | exact impl_CountTogether.mono _ _ _ _
   | exact impl_EvenChance.mono _ _ _
   | exact impl_LeastStay.mono _ _ _ _
   | exact impl_MeanApart.mono _ _
   | exact laws_yLow.mono _ _ _
   | exact spec_ChanceOfStays.mono _ _ _ _
   | exact spec_ChanceTogether.mono _ _ _ _
   | exact spec_CountAllWithin.mono _ _ _ _
   | exact spec_CountApart.mono _ _ _
   | exact spec_CountTogether.mono _ _ _ _
   | exact spec_EvenChance.mono _ _ _
   | exact spec_LeastStay.mono _ _ _ _
   | exact spec_MeanApart.mono _ _
   | exact LeO.none _
   | refine LeO.ite ?_ ?_
   | refine LeO.bind ?_ (fun _ => ?_)
  ·intro y0 y1 y2 y3 y4 y5 y6 y7 y8
   unfold laws_FnVisitsChance.j10
   repeat' first
   | (with_reducible exact ih0 _ _ _ _ _ _ _ _ _)
   | (with_reducible exact ih1 _)
   | (with_reducible exact ih2 _ _ _ _ _ _ _ _ _ _ _ _ _ _ _ _ _ _ _ _ _ _ _ _ _ _)
   | (with_reducible exact ih3 _ _ _ _ _ _ _ _ _ _ _ _ _ _ _ _ _ _ _ _ _)
   | (with_reducible exact ih4 _ _ _ _ _ _ _ _ _ _ _ _ _ _)
   | (with_reducible exact ih5 _ _ _ _ _ _ _ _ _)
   | (with_reducible exact ih6 _ _ _ _)
   | (with_reducible exact ih7 _ _ _ _ _)
   | (with_reducible exact ih8 _ _ _ _ _ _ _ _ _ _)
   | (with_reducible exact ih9 _ _ _ _ _ _ _ _ _ _ _ _ _ _)
   | (with_reducible exact ih10 _ _ _ _ _ _)
   | (with_reducible exact ih11 _ _ _ _ _ _)
   | (with_reducible exact ih12 _ _ _ _ _ _ _)
   | (with_reducible exact ih13 _ _ _ _ _)
   | (with_reducible exact impl_ChanceOfStays.mono _ _ _ _)
   | (with_reducible exact impl_ChanceTogether.mono _ _ _ _)
   | (with_reducible exact impl_CountAllWithin.mono _ _ _ _)
   | (with_reducible exact impl_CountApart.mono _ _ _)
   | (with_reducible exact impl_CountTogether.mono _ _ _ _)
   | (with_reducible exact impl_EvenChance.mono _ _ _)
   | (with_reducible exact impl_LeastStay.mono _ _ _ _)
   | (with_reducible exact impl_MeanApart.mono _ _)
   | (with_reducible exact laws_yLow.mono _ _ _)
   | (with_reducible exact spec_ChanceOfStays.mono _ _ _ _)
   | (with_reducible exact spec_ChanceTogether.mono _ _ _ _)
   | (with_reducible exact spec_CountAllWithin.mono _ _ _ _)
   | (with_reducible exact spec_CountApart.mono _ _ _)
   | (with_reducible exact spec_CountTogether.mono _ _ _ _)
   | (with_reducible exact spec_EvenChance.mono _ _ _)
   | (with_reducible exact spec_LeastStay.mono _ _ _ _)
   | (with_reducible exact spec_MeanApart.mono _ _)
   | (with_reducible exact LeO.refl _)
   | (with_reducible exact LeO.none _)
   | (with_reducible refine LeO.ite ?_ ?_)
   | (with_reducible refine LeO.bind ?_ (fun _ => ?_))
   | exact ih0 _ _ _ _ _ _ _ _ _
   | exact ih1 _
   | exact ih2 _ _ _ _ _ _ _ _ _ _ _ _ _ _ _ _ _ _ _ _ _ _ _ _ _ _
   | exact ih3 _ _ _ _ _ _ _ _ _ _ _ _ _ _ _ _ _ _ _ _ _
   | exact ih4 _ _ _ _ _ _ _ _ _ _ _ _ _ _
   | exact ih5 _ _ _ _ _ _ _ _ _
   | exact ih6 _ _ _ _
   | exact ih7 _ _ _ _ _
   | exact ih8 _ _ _ _ _ _ _ _ _ _
   | exact ih9 _ _ _ _ _ _ _ _ _ _ _ _ _ _
   | exact ih10 _ _ _ _ _ _
   | exact ih11 _ _ _ _ _ _
   | exact ih12 _ _ _ _ _ _ _
   | exact ih13 _ _ _ _ _
   | exact impl_ChanceOfStays.mono _ _ _ _
   | exact impl_ChanceTogether.mono _ _ _ _
   | exact impl_CountAllWithin.mono _ _ _ _
   | exact impl_CountApart.mono _ _ _
   | exact impl_CountTogether.mono _ _ _ _
   | exact impl_EvenChance.mono _ _ _
   | exact impl_LeastStay.mono _ _ _ _
   | exact impl_MeanApart.mono _ _
   | exact laws_yLow.mono _ _ _
   | exact spec_ChanceOfStays.mono _ _ _ _
   | exact spec_ChanceTogether.mono _ _ _ _
   | exact spec_CountAllWithin.mono _ _ _ _
   | exact spec_CountApart.mono _ _ _
   | exact spec_CountTogether.mono _ _ _ _
   | exact spec_EvenChance.mono _ _ _
   | exact spec_LeastStay.mono _ _ _ _
   | exact spec_MeanApart.mono _ _
   | exact LeO.none _
   | refine LeO.ite ?_ ?_
   | refine LeO.bind ?_ (fun _ => ?_)
  ·intro y0 y1 y2 y3
   unfold laws_FnVisitsChance.j12
   repeat' first
   | (with_reducible exact ih0 _ _ _ _ _ _ _ _ _)
   | (with_reducible exact ih1 _)
   | (with_reducible exact ih2 _ _ _ _ _ _ _ _ _ _ _ _ _ _ _ _ _ _ _ _ _ _ _ _ _ _)
   | (with_reducible exact ih3 _ _ _ _ _ _ _ _ _ _ _ _ _ _ _ _ _ _ _ _ _)
   | (with_reducible exact ih4 _ _ _ _ _ _ _ _ _ _ _ _ _ _)
   | (with_reducible exact ih5 _ _ _ _ _ _ _ _ _)
   | (with_reducible exact ih6 _ _ _ _)
   | (with_reducible exact ih7 _ _ _ _ _)
   | (with_reducible exact ih8 _ _ _ _ _ _ _ _ _ _)
   | (with_reducible exact ih9 _ _ _ _ _ _ _ _ _ _ _ _ _ _)
   | (with_reducible exact ih10 _ _ _ _ _ _)
   | (with_reducible exact ih11 _ _ _ _ _ _)
   | (with_reducible exact ih12 _ _ _ _ _ _ _)
   | (with_reducible exact ih13 _ _ _ _ _)
   | (with_reducible exact impl_ChanceOfStays.mono _ _ _ _)
   | (with_reducible exact impl_ChanceTogether.mono _ _ _ _)
   | (with_reducible exact impl_CountAllWithin.mono _ _ _ _)
   | (with_reducible exact impl_CountApart.mono _ _ _)
   | (with_reducible exact impl_CountTogether.mono _ _ _ _)
   | (with_reducible exact impl_EvenChance.mono _ _ _)
   | (with_reducible exact impl_LeastStay.mono _ _ _ _)
   | (with_reducible exact impl_MeanApart.mono _ _)
   | (with_reducible exact laws_yLow.mono _ _ _)
   | (with_reducible exact spec_ChanceOfStays.mono _ _ _ _)
   | (with_reducible exact spec_ChanceTogether.mono _ _ _ _)
   | (with_reducible exact spec_CountAllWithin.mono _ _ _ _)
   | (with_reducible exact spec_CountApart.mono _ _ _)
   | (with_reducible exact spec_CountTogether.mono _ _ _ _)
   | (with_reducible exact spec_EvenChance.mono _ _ _)
   | (with_reducible exact spec_LeastStay.mono _ _ _ _)
   | (with_reducible exact spec_MeanApart.mono _ _)
   | (with_reducible exact LeO.refl _)
   | (with_reducible exact LeO.none _)
   | (with_reducible refine LeO.ite ?_ ?_)
   | (with_reducible refine LeO.bind ?_ (fun _ => ?_))
   | exact ih0 _ _ _ _ _ _ _ _ _
   | exact ih1 _
   | exact ih2 _ _ _ _ _ _ _ _ _ _ _ _ _ _ _ _ _ _ _ _ _ _ _ _ _ _
   | exact ih3 _ _ _ _ _ _ _ _ _ _ _ _ _ _ _ _ _ _ _ _ _
   | exact ih4 _ _ _ _ _ _ _ _ _ _ _ _ _ _
   | exact ih5 _ _ _ _ _ _ _ _ _
   | exact ih6 _ _ _ _
   | exact ih7 _ _ _ _ _
   | exact ih8 _ _ _ _ _ _ _ _ _ _
   | exact ih9 _ _ _ _ _ _ _ _ _ _ _ _ _ _
   | exact ih10 _ _ _ _ _ _
   | exact ih11 _ _ _ _ _ _
   | exact ih12 _ _ _ _ _ _ _
   | exact ih13 _ _ _ _ _
   | exact impl_ChanceOfStays.mono _ _ _ _
   | exact impl_ChanceTogether.mono _ _ _ _
   | exact impl_CountAllWithin.mono _ _ _ _
   | exact impl_CountApart.mono _ _ _
   | exact impl_CountTogether.mono _ _ _ _
   | exact impl_EvenChance.mono _ _ _
   | exact impl_LeastStay.mono _ _ _ _
   | exact impl_MeanApart.mono _ _
   | exact laws_yLow.mono _ _ _
   | exact spec_ChanceOfStays.mono _ _ _ _
   | exact spec_ChanceTogether.mono _ _ _ _
   | exact spec_CountAllWithin.mono _ _ _ _
   | exact spec_CountApart.mono _ _ _
   | exact spec_CountTogether.mono _ _ _ _
   | exact spec_EvenChance.mono _ _ _
   | exact spec_LeastStay.mono _ _ _ _
   | exact spec_MeanApart.mono _ _
   | exact LeO.none _
   | refine LeO.ite ?_ ?_
   | refine LeO.bind ?_ (fun _ => ?_)
  ·intro y0 y1 y2 y3 y4
   unfold laws_FnVisitsChance.l2
   repeat' first
   | (with_reducible exact ih0 _ _ _ _ _ _ _ _ _)
   | (with_reducible exact ih1 _)
   | (with_reducible exact ih2 _ _ _ _ _ _ _ _ _ _ _ _ _ _ _ _ _ _ _ _ _ _ _ _ _ _)
   | (with_reducible exact ih3 _ _ _ _ _ _ _ _ _ _ _ _ _ _ _ _ _ _ _ _ _)
   | (with_reducible exact ih4 _ _ _ _ _ _ _ _ _ _ _ _ _ _)
   | (with_reducible exact ih5 _ _ _ _ _ _ _ _ _)
   | (with_reducible exact ih6 _ _ _ _)
   | (with_reducible exact ih7 _ _ _ _ _)
   | (with_reducible exact ih8 _ _ _ _ _ _ _ _ _ _)
   | (with_reducible exact ih9 _ _ _ _ _ _ _ _ _ _ _ _ _ _)
   | (with_reducible exact ih10 _ _ _ _ _ _)
   | (with_reducible exact ih11 _ _ _ _ _ _)
   | (with_reducible exact ih12 _ _ _ _ _ _ _)
   | (with_reducible exact ih13 _ _ _ _ _)
   | (with_reducible exact impl_ChanceOfStays.mono _ _ _ _)
   | (with_reducible exact impl_ChanceTogether.mono _ _ _ _)
   | (with_reducible exact impl_CountAllWithin.mono _ _ _ _)
   | (with_reducible exact impl_CountApart.mono _ _ _)
   | (with_reducible exact impl_CountTogether.mono _ _ _ _)
   | (with_reducible exact impl_EvenChance.mono _ _ _)
   | (with_reducible exact impl_LeastStay.mono _ _ _ _)
   | (with_reducible exact impl_MeanApart.mono _ _)
   | (with_reducible exact laws_yLow.mono _ _ _)
   | (with_reducible exact spec_ChanceOfStays.mono _ _ _ _)
   | (with_reducible exact spec_ChanceTogether.mono _ _ _ _)
   | (with_reducible exact spec_CountAllWithin.mono _ _ _ _)
   | (with_reducible exact spec_CountApart.mono _ _ _)
   | (with_reducible exact spec_CountTogether.mono _ _ _ _)
   | (with_reducible exact spec_EvenChance.mono _ _ _)
   | (with_reducible exact spec_LeastStay.mono _ _ _ _)
   | (with_reducible exact spec_MeanApart.mono _ _)
   | (with_reducible exact LeO.refl _)
   | (with_reducible exact LeO.none _)
   | (with_reducible refine LeO.ite ?_ ?_)
   | (with_reducible refine LeO.bind ?_ (fun _ => ?_))
   | exact ih0 _ _ _ _ _ _ _ _ _
   | exact ih1 _
   | exact ih2 _ _ _ _ _ _ _ _ _ _ _ _ _ _ _ _ _ _ _ _ _ _ _ _ _ _
   | exact ih3 _ _ _ _ _ _ _ _ _ _ _ _ _ _ _ _ _ _ _ _ _
   | exact ih4 _ _ _ _ _ _ _ _ _ _ _ _ _ _
   | exact ih5 _ _ _ _ _ _ _ _ _
   | exact ih6 _ _ _ _
   | exact ih7 _ _ _ _ _
   | exact ih8 _ _ _ _ _ _ _ _ _ _
   | exact ih9 _ _ _ _ _ _ _ _ _ _ _ _ _ _
   | exact ih10 _ _ _ _ _ _
   | exact ih11 _ _ _ _ _ _
   | exact ih12 _ _ _ _ _ _ _
   | exact ih13 _ _ _ _ _
   | exact impl_ChanceOfStays.mono _ _ _ _
   | exact impl_ChanceTogether.mono _ _ _ _
   | exact impl_CountAllWithin.mono _ _ _ _
   | exact impl_CountApart.mono _ _ _
   | exact impl_CountTogether.mono _ _ _ _
   | exact impl_EvenChance.mono _ _ _
   | exact impl_LeastStay.mono _ _ _ _
   | exact impl_MeanApart.mono _ _
   | exact laws_yLow.mono _ _ _
   | exact spec_ChanceOfStays.mono _ _ _ _
   | exact spec_ChanceTogether.mono _ _ _ _
   | exact spec_CountAllWithin.mono _ _ _ _
   | exact spec_CountApart.mono _ _ _
   | exact spec_CountTogether.mono _ _ _ _
   | exact spec_EvenChance.mono _ _ _
   | exact spec_LeastStay.mono _ _ _ _
   | exact spec_MeanApart.mono _ _
   | exact LeO.none _
   | refine LeO.ite ?_ ?_
   | refine LeO.bind ?_ (fun _ => ?_)
  ·intro y0 y1 y2 y3 y4 y5 y6 y7 y8 y9
   unfold laws_FnVisitsChance.l1
   repeat' first
   | (with_reducible exact ih0 _ _ _ _ _ _ _ _ _)
   | (with_reducible exact ih1 _)
   | (with_reducible exact ih2 _ _ _ _ _ _ _ _ _ _ _ _ _ _ _ _ _ _ _ _ _ _ _ _ _ _)
   | (with_reducible exact ih3 _ _ _ _ _ _ _ _ _ _ _ _ _ _ _ _ _ _ _ _ _)
   | (with_reducible exact ih4 _ _ _ _ _ _ _ _ _ _ _ _ _ _)
   | (with_reducible exact ih5 _ _ _ _ _ _ _ _ _)
   | (with_reducible exact ih6 _ _ _ _)
   | (with_reducible exact ih7 _ _ _ _ _)
   | (with_reducible exact ih8 _ _ _ _ _ _ _ _ _ _)
   | (with_reducible exact ih9 _ _ _ _ _ _ _ _ _ _ _ _ _ _)
   | (with_reducible exact ih10 _ _ _ _ _ _)
   | (with_reducible exact ih11 _ _ _ _ _ _)
   | (with_reducible exact ih12 _ _ _ _ _ _ _)
   | (with_reducible exact ih13 _ _ _ _ _)
   | (with_reducible exact impl_ChanceOfStays.mono _ _ _ _)
   | (with_reducible exact impl_ChanceTogether.mono _ _ _ _)
   | (with_reducible exact impl_CountAllWithin.mono _ _ _ _)
   | (with_reducible exact impl_CountApart.mono _ _ _)
   | (with_reducible exact impl_CountTogether.mono _ _ _ _)
   | (with_reducible exact impl_EvenChance.mono _ _ _)
   | (with_reducible exact impl_LeastStay.mono _ _ _ _)
   | (with_reducible exact impl_MeanApart.mono _ _)
   | (with_reducible exact laws_yLow.mono _ _ _)
   | (with_reducible exact spec_ChanceOfStays.mono _ _ _ _)
   | (with_reducible exact spec_ChanceTogether.mono _ _ _ _)
   | (with_reducible exact spec_CountAllWithin.mono _ _ _ _)
   | (with_reducible exact spec_CountApart.mono _ _ _)
   | (with_reducible exact spec_CountTogether.mono _ _ _ _)
   | (with_reducible exact spec_EvenChance.mono _ _ _)
   | (with_reducible exact spec_LeastStay.mono _ _ _ _)
   | (with_reducible exact spec_MeanApart.mono _ _)
   | (with_reducible exact LeO.refl _)
   | (with_reducible exact LeO.none _)
   | (with_reducible refine LeO.ite ?_ ?_)
   | (with_reducible refine LeO.bind ?_ (fun _ => ?_))
   | exact ih0 _ _ _ _ _ _ _ _ _
   | exact ih1 _
   | exact ih2 _ _ _ _ _ _ _ _ _ _ _ _ _ _ _ _ _ _ _ _ _ _ _ _ _ _
   | exact ih3 _ _ _ _ _ _ _ _ _ _ _ _ _ _ _ _ _ _ _ _ _
   | exact ih4 _ _ _ _ _ _ _ _ _ _ _ _ _ _
   | exact ih5 _ _ _ _ _ _ _ _ _
   | exact ih6 _ _ _ _
   | exact ih7 _ _ _ _ _
   | exact ih8 _ _ _ _ _ _ _ _ _ _
   | exact ih9 _ _ _ _ _ _ _ _ _ _ _ _ _ _
   | exact ih10 _ _ _ _ _ _
   | exact ih11 _ _ _ _ _ _
   | exact ih12 _ _ _ _ _ _ _
   | exact ih13 _ _ _ _ _
   | exact impl_ChanceOfStays.mono _ _ _ _
   | exact impl_ChanceTogether.mono _ _ _ _
   | exact impl_CountAllWithin.mono _ _ _ _
   | exact impl_CountApart.mono _ _ _
   | exact impl_CountTogether.mono _ _ _ _
   | exact impl_EvenChance.mono _ _ _
   | exact impl_LeastStay.mono _ _ _ _
   | exact impl_MeanApart.mono _ _
   | exact laws_yLow.mono _ _ _
   | exact spec_ChanceOfStays.mono _ _ _ _
   | exact spec_ChanceTogether.mono _ _ _ _
   | exact spec_CountAllWithin.mono _ _ _ _
   | exact spec_CountApart.mono _ _ _
   | exact spec_CountTogether.mono _ _ _ _
   | exact spec_EvenChance.mono _ _ _
   | exact spec_LeastStay.mono _ _ _ _
   | exact spec_MeanApart.mono _ _
   | exact LeO.none _
   | refine LeO.ite ?_ ?_
   | refine LeO.bind ?_ (fun _ => ?_)
  ·intro y0 y1 y2 y3 y4 y5 y6 y7 y8 y9 y10 y11 y12 y13
   unfold laws_FnVisitsChance.j9
   repeat' first
   | (with_reducible exact ih0 _ _ _ _ _ _ _ _ _)
   | (with_reducible exact ih1 _)
   | (with_reducible exact ih2 _ _ _ _ _ _ _ _ _ _ _ _ _ _ _ _ _ _ _ _ _ _ _ _ _ _)
   | (with_reducible exact ih3 _ _ _ _ _ _ _ _ _ _ _ _ _ _ _ _ _ _ _ _ _)
   | (with_reducible exact ih4 _ _ _ _ _ _ _ _ _ _ _ _ _ _)
   | (with_reducible exact ih5 _ _ _ _ _ _ _ _ _)
   | (with_reducible exact ih6 _ _ _ _)
   | (with_reducible exact ih7 _ _ _ _ _)
   | (with_reducible exact ih8 _ _ _ _ _ _ _ _ _ _)
   | (with_reducible exact ih9 _ _ _ _ _ _ _ _ _ _ _ _ _ _)
   | (with_reducible exact ih10 _ _ _ _ _ _)
   | (with_reducible exact ih11 _ _ _ _ _ _)
   | (with_reducible exact ih12 _ _ _ _ _ _ _)
   | (with_reducible exact ih13 _ _ _ _ _)
   | (with_reducible exact impl_ChanceOfStays.mono _ _ _ _)
   | (with_reducible exact impl_ChanceTogether.mono _ _ _ _)
   | (with_reducible exact impl_CountAllWithin.mono _ _ _ _)
   | (with_reducible exact impl_CountApart.mono _ _ _)
   | (with_reducible exact impl_CountTogether.mono _ _ _ _)
   | (with_reducible exact impl_EvenChance.mono _ _ _)
   | (with_reducible exact impl_LeastStay.mono _ _ _ _)
   | (with_reducible exact impl_MeanApart.mono _ _)
   | (with_reducible exact laws_yLow.mono _ _ _)
   | (with_reducible exact spec_ChanceOfStays.mono _ _ _ _)
   | (with_reducible exact spec_ChanceTogether.mono _ _ _ _)
   | (with_reducible exact spec_CountAllWithin.mono _ _ _ _)
   | (with_reducible exact spec_CountApart.mono _ _ _)
   | (with_reducible exact spec_CountTogether.mono _ _ _ _)
   | (with_reducible exact spec_EvenChance.mono _ _ _)
   | (with_reducible exact spec_LeastStay.mono _ _ _ _)
   | (with_reducible exact spec_MeanApart.mono _ _)
   | (with_reducible exact LeO.refl _)
   | (with_reducible exact LeO.none _)
   | (with_reducible refine LeO.ite ?_ ?_)
   | (with_reducible refine LeO.bind ?_ (fun _ => ?_))
   | exact ih0 _ _ _ _ _ _ _ _ _
   | exact ih1 _
   | exact ih2 _ _ _ _ _ _ _ _ _ _ _ _ _ _ _ _ _ _ _ _ _ _ _ _ _ _
   | exact ih3 _ _ _ _ _ _ _ _ _ _ _ _ _ _ _ _ _ _ _ _ _
   | exact ih4 _ _ _ _ _ _ _ _ _ _ _ _ _ _
   | exact ih5 _ _ _ _ _ _ _ _ _
   | exact ih6 _ _ _ _
   | exact ih7 _ _ _ _ _
   | exact ih8 _ _ _ _ _ _ _ _ _ _
   | exact ih9 _ _ _ _ _ _ _ _ _ _ _ _ _ _
   | exact ih10 _ _ _ _ _ _
   | exact ih11 _ _ _ _ _ _
   | exact ih12 _ _ _ _ _ _ _
   | exact ih13 _ _ _ _ _
   | exact impl_ChanceOfStays.mono _ _ _ _
   | exact impl_ChanceTogether.mono _ _ _ _
   | exact impl_CountAllWithin.mono _ _ _ _
   | exact impl_CountApart.mono _ _ _
   | exact impl_CountTogether.mono _ _ _ _
   | exact impl_EvenChance.mono _ _ _
   | exact impl_LeastStay.mono _ _ _ _
   | exact impl_MeanApart.mono _ _
   | exact laws_yLow.mono _ _ _
   | exact spec_ChanceOfStays.mono _ _ _ _
   | exact spec_ChanceTogether.mono _ _ _ _
   | exact spec_CountAllWithin.mono _ _ _ _
   | exact spec_CountApart.mono _ _ _
   | exact spec_CountTogether.mono _ _ _ _
   | exact spec_EvenChance.mono _ _ _
   | exact spec_LeastStay.mono _ _ _ _
   | exact spec_MeanApart.mono _ _
   | exact LeO.none _
   | refine LeO.ite ?_ ?_
   | refine LeO.bind ?_ (fun _ => ?_)
  ·intro y0 y1 y2 y3 y4 y5
   unfold laws_FnVisitsChance.j1
   repeat' first
   | (with_reducible exact ih0 _ _ _ _ _ _ _ _ _)
   | (with_reducible exact ih1 _)
   | (with_reducible exact ih2 _ _ _ _ _ _ _ _ _ _ _ _ _ _ _ _ _ _ _ _ _ _ _ _ _ _)
   | (with_reducible exact ih3 _ _ _ _ _ _ _ _ _ _ _ _ _ _ _ _ _ _ _ _ _)
   | (with_reducible exact ih4 _ _ _ _ _ _ _ _ _ _ _ _ _ _)
   | (with_reducible exact ih5 _ _ _ _ _ _ _ _ _)
   | (with_reducible exact ih6 _ _ _ _)
   | (with_reducible exact ih7 _ _ _ _ _)
   | (with_reducible exact ih8 _ _ _ _ _ _ _ _ _ _)
   | (with_reducible exact ih9 _ _ _ _ _ _ _ _ _ _ _ _ _ _)
   | (with_reducible exact ih10 _ _ _ _ _ _)
   | (with_reducible exact ih11 _ _ _ _ _ _)
   | (with_reducible exact ih12 _ _ _ _ _ _ _)
   | (with_reducible exact ih13 _ _ _ _ _)
   | (with_reducible exact impl_ChanceOfStays.mono _ _ _ _)
   | (with_reducible exact impl_ChanceTogether.mono _ _ _ _)
   | (with_reducible exact impl_CountAllWithin.mono _ _ _ _)
   | (with_reducible exact impl_CountApart.mono _ _ _)
   | (with_reducible exact impl_CountTogether.mono _ _ _ _)
   | (with_reducible exact impl_EvenChance.mono _ _ _)
   | (with_reducible exact impl_LeastStay.mono _ _ _ _)
   | (with_reducible exact impl_MeanApart.mono _ _)
   | (with_reducible exact laws_yLow.mono _ _ _)
   | (with_reducible exact spec_ChanceOfStays.mono _ _ _ _)
   | (with_reducible exact spec_ChanceTogether.mono _ _ _ _)
   | (with_reducible exact spec_CountAllWithin.mono _ _ _ _)
   | (with_reducible exact spec_CountApart.mono _ _ _)
   | (with_reducible exact spec_CountTogether.mono _ _ _ _)
   | (with_reducible exact spec_EvenChance.mono _ _ _)
   | (with_reducible exact spec_LeastStay.mono _ _ _ _)
   | (with_reducible exact spec_MeanApart.mono _ _)
   | (with_reducible exact LeO.refl _)
   | (with_reducible exact LeO.none _)
   | (with_reducible refine LeO.ite ?_ ?_)
   | (with_reducible refine LeO.bind ?_ (fun _ => ?_))
   | exact ih0 _ _ _ _ _ _ _ _ _
   | exact ih1 _
   | exact ih2 _ _ _ _ _ _ _ _ _ _ _ _ _ _ _ _ _ _ _ _ _ _ _ _ _ _
   | exact ih3 _ _ _ _ _ _ _ _ _ _ _ _ _ _ _ _ _ _ _ _ _
   | exact ih4 _ _ _ _ _ _ _ _ _ _ _ _ _ _
   | exact ih5 _ _ _ _ _ _ _ _ _
   | exact ih6 _ _ _ _
   | exact ih7 _ _ _ _ _
   | exact ih8 _ _ _ _ _ _ _ _ _ _
   | exact ih9 _ _ _ _ _ _ _ _ _ _ _ _ _ _
   | exact ih10 _ _ _ _ _ _
   | exact ih11 _ _ _ _ _ _
   | exact ih12 _ _ _ _ _ _ _
   | exact ih13 _ _ _ _ _
   | exact impl_ChanceOfStays.mono _ _ _ _
   | exact impl_ChanceTogether.mono _ _ _ _
   | exact impl_CountAllWithin.mono _ _ _ _
   | exact impl_CountApart.mono _ _ _
   | exact impl_CountTogether.mono _ _ _ _
   | exact impl_EvenChance.mono _ _ _
   | exact impl_LeastStay.mono _ _ _ _
   | exact impl_MeanApart.mono _ _
   | exact laws_yLow.mono _ _ _
   | exact spec_ChanceOfStays.mono _ _ _ _
   | exact spec_ChanceTogether.mono _ _ _ _
   | exact spec_CountAllWithin.mono _ _ _ _
   | exact spec_CountApart.mono _ _ _
   | exact spec_CountTogether.mono _ _ _ _
   | exact spec_EvenChance.mono _ _ _
   | exact spec_LeastStay.mono _ _ _ _
   | exact spec_MeanApart.mono _ _
   | exact LeO.none _
   | refine LeO.ite ?_ ?_
   | refine LeO.bind ?_ (fun _ => ?_)
  ·intro y0 y1 y2 y3 y4 y5
   unfold laws_FnVisitsChance.l0
   repeat' first
   | (with_reducible exact ih0 _ _ _ _ _ _ _ _ _)
   | (with_reducible exact ih1 _)
   | (with_reducible exact ih2 _ _ _ _ _ _ _ _ _ _ _ _ _ _ _ _ _ _ _ _ _ _ _ _ _ _)
   | (with_reducible exact ih3 _ _ _ _ _ _ _ _ _ _ _ _ _ _ _ _ _ _ _ _ _)
   | (with_reducible exact ih4 _ _ _ _ _ _ _ _ _ _ _ _ _ _)
   | (with_reducible exact ih5 _ _ _ _ _ _ _ _ _)
   | (with_reducible exact ih6 _ _ _ _)
   | (with_reducible exact ih7 _ _ _ _ _)
   | (with_reducible exact ih8 _ _ _ _ _ _ _ _ _ _)
   | (with_reducible exact ih9 _ _ _ _ _ _ _ _ _ _ _ _ _ _)
   | (with_reducible exact ih10 _ _ _ _ _ _)
   | (with_reducible exact ih11 _ _ _ _ _ _)
   | (with_reducible exact ih12 _ _ _ _ _ _ _)
   | (with_reducible exact ih13 _ _ _ _ _)
   | (with_reducible exact impl_ChanceOfStays.mono _ _ _ _)
   | (with_reducible exact impl_ChanceTogether.mono _ _ _ _)
   | (with_reducible exact impl_CountAllWithin.mono _ _ _ _)
   | (with_reducible exact impl_CountApart.mono _ _ _)
   | (with_reducible exact impl_CountTogether.mono _ _ _ _)
   | (with_reducible exact impl_EvenChance.mono _ _ _)
   | (with_reducible exact impl_LeastStay.mono _ _ _ _)
   | (with_reducible exact impl_MeanApart.mono _ _)
   | (with_reducible exact laws_yLow.mono _ _ _)
   | (with_reducible exact spec_ChanceOfStays.mono _ _ _ _)
   | (with_reducible exact spec_ChanceTogether.mono _ _ _ _)
   | (with_reducible exact spec_CountAllWithin.mono _ _ _ _)
   | (with_reducible exact spec_CountApart.mono _ _ _)
   | (with_reducible exact spec_CountTogether.mono _ _ _ _)
   | (with_reducible exact spec_EvenChance.mono _ _ _)
   | (with_reducible exact spec_LeastStay.mono _ _ _ _)
   | (with_reducible exact spec_MeanApart.mono _ _)
   | (with_reducible exact LeO.refl _)
   | (with_reducible exact LeO.none _)
   | (with_reducible refine LeO.ite ?_ ?_)
   | (with_reducible refine LeO.bind ?_ (fun _ => ?_))
   | exact ih0 _ _ _ _ _ _ _ _ _
   | exact ih1 _
   | exact ih2 _ _ _ _ _ _ _ _ _ _ _ _ _ _ _ _ _ _ _ _ _ _ _ _ _ _
   | exact ih3 _ _ _ _ _ _ _ _ _ _ _ _ _ _ _ _ _ _ _ _ _
   | exact ih4 _ _ _ _ _ _ _ _ _ _ _ _ _ _
   | exact ih5 _ _ _ _ _ _ _ _ _
   | exact ih6 _ _ _ _
   | exact ih7 _ _ _ _ _
   | exact ih8 _ _ _ _ _ _ _ _ _ _
   | exact ih9 _ _ _ _ _ _ _ _ _ _ _ _ _ _
   | exact ih10 _ _ _ _ _ _
   | exact ih11 _ _ _ _ _ _
   | exact ih12 _ _ _ _ _ _ _
   | exact ih13 _ _ _ _ _
   | exact impl_ChanceOfStays.mono _ _ _ _
   | exact impl_ChanceTogether.mono _ _ _ _
   | exact impl_CountAllWithin.mono _ _ _ _
   | exact impl_CountApart.mono _ _ _
   | exact impl_CountTogether.mono _ _ _ _
   | exact impl_EvenChance.mono _ _ _
   | exact impl_LeastStay.mono _ _ _ _
   | exact impl_MeanApart.mono _ _
   | exact laws_yLow.mono _ _ _
   | exact spec_ChanceOfStays.mono _ _ _ _
   | exact spec_ChanceTogether.mono _ _ _ _
   | exact spec_CountAllWithin.mono _ _ _ _
   | exact spec_CountApart.mono _ _ _
   | exact spec_CountTogether.mono _ _ _ _
   | exact spec_EvenChance.mono _ _ _
   | exact spec_LeastStay.mono _ _ _ _
   | exact spec_MeanApart.mono _ _
   | exact LeO.none _
   | refine LeO.ite ?_ ?_
   | refine LeO.bind ?_ (fun _ => ?_)
  ·intro y0 y1 y2 y3 y4 y5 y6
   unfold laws_FnVisitsChance.j3
   repeat' first
   | (with_reducible exact ih0 _ _ _ _ _ _ _ _ _)
   | (with_reducible exact ih1 _)
   | (with_reducible exact ih2 _ _ _ _ _ _ _ _ _ _ _ _ _ _ _ _ _ _ _ _ _ _ _ _ _ _)
   | (with_reducible exact ih3 _ _ _ _ _ _ _ _ _ _ _ _ _ _ _ _ _ _ _ _ _)
   | (with_reducible exact ih4 _ _ _ _ _ _ _ _ _ _ _ _ _ _)
   | (with_reducible exact ih5 _ _ _ _ _ _ _ _ _)
   | (with_reducible exact ih6 _ _ _ _)
   | (with_reducible exact ih7 _ _ _ _ _)
   | (with_reducible exact ih8 _ _ _ _ _ _ _ _ _ _)
   | (with_reducible exact ih9 _ _ _ _ _ _ _ _ _ _ _ _ _ _)
   | (with_reducible exact ih10 _ _ _ _ _ _)
   | (with_reducible exact ih11 _ _ _ _ _ _)
   | (with_reducible exact ih12 _ _ _ _ _ _ _)
   | (with_reducible exact ih13 _ _ _ _ _)
   | (with_reducible exact impl_ChanceOfStays.mono _ _ _ _)
   | (with_reducible exact impl_ChanceTogether.mono _ _ _ _)
   | (with_reducible exact impl_CountAllWithin.mono _ _ _ _)
   | (with_reducible exact impl_CountApart.mono _ _ _)
   | (with_reducible exact impl_CountTogether.mono _ _ _ _)
   | (with_reducible exact impl_EvenChance.mono _ _ _)
   | (with_reducible exact impl_LeastStay.mono _ _ _ _)
   | (with_reducible exact impl_MeanApart.mono _ _)
   | (with_reducible exact laws_yLow.mono _ _ _)
   | (with_reducible exact spec_ChanceOfStays.mono _ _ _ _)
   | (with_reducible exact spec_ChanceTogether.mono _ _ _ _)
   | (with_reducible exact spec_CountAllWithin.mono _ _ _ _)
   | (with_reducible exact spec_CountApart.mono _ _ _)
   | (with_reducible exact spec_CountTogether.mono _ _ _ _)
   | (with_reducible exact spec_EvenChance.mono _ _ _)
   | (with_reducible exact spec_LeastStay.mono _ _ _ _)
   | (with_reducible exact spec_MeanApart.mono _ _)
   | (with_reducible exact LeO.refl _)
   | (with_reducible exact LeO.none _)
   | (with_reducible refine LeO.ite ?_ ?_)
   | (with_reducible refine LeO.bind ?_ (fun _ => ?_))
   | exact ih0 _ _ _ _ _ _ _ _ _
   | exact ih1 _
   | exact ih2 _ _ _ _ _ _ _ _ _ _ _ _ _ _ _ _ _ _ _ _ _ _ _ _ _ _
   | exact ih3 _ _ _ _ _ _ _ _ _ _ _ _ _ _ _ _ _ _ _ _ _
   | exact ih4 _ _ _ _ _ _ _ _ _ _ _ _ _ _
   | exact ih5 _ _ _ _ _ _ _ _ _
   | exact ih6 _ _ _ _
   | exact ih7 _ _ _ _ _
   | exact ih8 _ _ _ _ _ _ _ _ _ _
   | exact ih9 _ _ _ _ _ _ _ _ _ _ _ _ _ _
   | exact ih10 _ _ _ _ _ _
   | exact ih11 _ _ _ _ _ _
   | exact ih12 _ _ _ _ _ _ _
   | exact ih13 _ _ _ _ _
   | exact impl_ChanceOfStays.mono _ _ _ _
   | exact impl_ChanceTogether.mono _ _ _ _
   | exact impl_CountAllWithin.mono _ _ _ _
   | exact impl_CountApart.mono _ _ _
   | exact impl_CountTogether.mono _ _ _ _
   | exact impl_EvenChance.mono _ _ _
   | exact impl_LeastStay.mono _ _ _ _
   | exact impl_MeanApart.mono _ _
   | exact laws_yLow.mono _ _ _
   | exact spec_ChanceOfStays.mono _ _ _ _
   | exact spec_ChanceTogether.mono _ _ _ _
   | exact spec_CountAllWithin.mono _ _ _ _
   | exact spec_CountApart.mono _ _ _
   | exact spec_CountTogether.mono _ _ _ _
   | exact spec_EvenChance.mono _ _ _
   | exact spec_LeastStay.mono _ _ _ _
   | exact spec_MeanApart.mono _ _
   | exact LeO.none _
   | refine LeO.ite ?_ ?_
   | refine LeO.bind ?_ (fun _ => ?_)
  ·intro y0 y1 y2 y3 y4
   unfold laws_FnVisitsChance.j4
   repeat' first
   | (with_reducible exact ih0 _ _ _ _ _ _ _ _ _)
   | (with_reducible exact ih1 _)
   | (with_reducible exact ih2 _ _ _ _ _ _ _ _ _ _ _ _ _ _ _ _ _ _ _ _ _ _ _ _ _ _)
   | (with_reducible exact ih3 _ _ _ _ _ _ _ _ _ _ _ _ _ _ _ _ _ _ _ _ _)
   | (with_reducible exact ih4 _ _ _ _ _ _ _ _ _ _ _ _ _ _)
   | (with_reducible exact ih5 _ _ _ _ _ _ _ _ _)
   | (with_reducible exact ih6 _ _ _ _)
   | (with_reducible exact ih7 _ _ _ _ _)
   | (with_reducible exact ih8 _ _ _ _ _ _ _ _ _ _)
   | (with_reducible exact ih9 _ _ _ _ _ _ _ _ _ _ _ _ _ _)
   | (with_reducible exact ih10 _ _ _ _ _ _)
   | (with_reducible exact ih11 _ _ _ _ _ _)
   | (with_reducible exact ih12 _ _ _ _ _ _ _)
   | (with_reducible exact ih13 _ _ _ _ _)
   | (with_reducible exact impl_ChanceOfStays.mono _ _ _ _)
   | (with_reducible exact impl_ChanceTogether.mono _ _ _ _)
   | (with_reducible exact impl_CountAllWithin.mono _ _ _ _)
   | (with_reducible exact impl_CountApart.mono _ _ _)
   | (with_reducible exact impl_CountTogether.mono _ _ _ _)
   | (with_reducible exact impl_EvenChance.mono _ _ _)
   | (with_reducible exact impl_LeastStay.mono _ _ _ _)
   | (with_reducible exact impl_MeanApart.mono _ _)
   | (with_reducible exact laws_yLow.mono _ _ _)
   | (with_reducible exact spec_ChanceOfStays.mono _ _ _ _)
   | (with_reducible exact spec_ChanceTogether.mono _ _ _ _)
   | (with_reducible exact spec_CountAllWithin.mono _ _ _ _)
   | (with_reducible exact spec_CountApart.mono _ _ _)
   | (with_reducible exact spec_CountTogether.mono _ _ _ _)
   | (with_reducible exact spec_EvenChance.mono _ _ _)
   | (with_reducible exact spec_LeastStay.mono _ _ _ _)
   | (with_reducible exact spec_MeanApart.mono _ _)
   | (with_reducible exact LeO.refl _)
   | (with_reducible exact LeO.none _)
   | (with_reducible refine LeO.ite ?_ ?_)
   | (with_reducible refine LeO.bind ?_ (fun _ => ?_))
   | exact ih0 _ _ _ _ _ _ _ _ _
   | exact ih1 _
   | exact ih2 _ _ _ _ _ _ _ _ _ _ _ _ _ _ _ _ _ _ _ _ _ _ _ _ _ _
   | exact ih3 _ _ _ _ _ _ _ _ _ _ _ _ _ _ _ _ _ _ _ _ _
   | exact ih4 _ _ _ _ _ _ _ _ _ _ _ _ _ _
   | exact ih5 _ _ _ _ _ _ _ _ _
   | exact ih6 _ _ _ _
   | exact ih7 _ _ _ _ _
   | exact ih8 _ _ _ _ _ _ _ _ _ _
   | exact ih9 _ _ _ _ _ _ _ _ _ _ _ _ _ _
   | exact ih10 _ _ _ _ _ _
   | exact ih11 _ _ _ _ _ _
   | exact ih12 _ _ _ _ _ _ _
   | exact ih13 _ _ _ _ _
   | exact impl_ChanceOfStays.mono _ _ _ _
   | exact impl_ChanceTogether.mono _ _ _ _
   | exact impl_CountAllWithin.mono _ _ _ _
   | exact impl_CountApart.mono _ _ _
   | exact impl_CountTogether.mono _ _ _ _
   | exact impl_EvenChance.mono _ _ _
   | exact impl_LeastStay.mono _ _ _ _
   | exact impl_MeanApart.mono _ _
   | exact laws_yLow.mono _ _ _
   | exact spec_ChanceOfStays.mono _ _ _ _
   | exact spec_ChanceTogether.mono _ _ _ _
   | exact spec_CountAllWithin.mono _ _ _ _
   | exact spec_CountApart.mono _ _ _
   | exact spec_CountTogether.mono _ _ _ _
   | exact spec_EvenChance.mono _ _ _
   | exact spec_LeastStay.mono _ _ _ _
   | exact spec_MeanApart.mono _ _
   | exact LeO.none _
   | refine LeO.ite ?_ ?_
   | refine LeO.bind ?_ (fun _ => ?_)
theorem laws_FnVisitsChance.mono : ∀ a0 a1 k, LeO (laws_FnVisitsChance.f k a0 a1) (laws_FnVisitsChance.f (k + 1) a0 a1) := by
 intro a0 a1 k
 obtain ⟨ih0, ih1, ih2, ih3, ih4, ih5, ih6, ih7, ih8, ih9, ih10, ih11, ih12, ih13⟩ := laws_FnVisitsChance.mono_l k
 unfold laws_FnVisitsChance.f
 repeat' first
   | (with_reducible exact ih0 _ _ _ _ _ _ _ _ _)
   | (with_reducible exact ih1 _)
   | (with_reducible exact ih2 _ _ _ _ _ _ _ _ _ _ _ _ _ _ _ _ _ _ _ _ _ _ _ _ _ _)
   | (with_reducible exact ih3 _ _ _ _ _ _ _ _ _ _ _ _ _ _ _ _ _ _ _ _ _)
   | (with_reducible exact ih4 _ _ _ _ _ _ _ _ _ _ _ _ _ _)
   | (with_reducible exact ih5 _ _ _ _ _ _ _ _ _)
   | (with_reducible exact ih6 _ _ _ _)
   | (with_reducible exact ih7 _ _ _ _ _)
   | (with_reducible exact ih8 _ _ _ _ _ _ _ _ _ _)
   | (with_reducible exact ih9 _ _ _ _ _ _ _ _ _ _ _ _ _ _)
   | (with_reducible exact ih10 _ _ _ _ _ _)
   | (with_reducible exact ih11 _ _ _ _ _ _)
   | (with_reducible exact ih12 _ _ _ _ _ _ _)
   | (with_reducible exact ih13 _ _ _ _ _)
   | (with_reducible exact impl_ChanceOfStays.mono _ _ _ _)
   | (with_reducible exact impl_ChanceTogether.mono _ _ _ _)
   | (with_reducible exact impl_CountAllWithin.mono _ _ _ _)
   | (with_reducible exact impl_CountApart.mono _ _ _)
   | (with_reducible exact impl_CountTogether.mono _ _ _ _)
   | (with_reducible exact impl_EvenChance.mono _ _ _)
   | (with_reducible exact impl_LeastStay.mono _ _ _ _)
   | (with_reducible exact impl_MeanApart.mono _ _)
   | (with_reducible exact laws_yLow.mono _ _ _)
   | (with_reducible exact spec_ChanceOfStays.mono _ _ _ _)
   | (with_reducible exact spec_ChanceTogether.mono _ _ _ _)
   | (with_reducible exact spec_CountAllWithin.mono _ _ _ _)
   | (with_reducible exact spec_CountApart.mono _ _ _)
   | (with_reducible exact spec_CountTogether.mono _ _ _ _)
   | (with_reducible exact spec_EvenChance.mono _ _ _)
   | (with_reducible exact spec_LeastStay.mono _ _ _ _)
   | (with_reducible exact spec_MeanApart.mono _ _)
   | (with_reducible exact LeO.refl _)
   | (with_reducible exact LeO.none _)
   | (with_reducible refine LeO.ite ?_ ?_)
   | (with_reducible refine LeO.bind ?_ (fun _ => ?_))
   | exact ih0 _ _ _ _ _ _ _ _ _
   | exact ih1 _
   | exact ih2 _ _ _ _ _ _ _ _ _ _ _ _ _ _ _ _ _ _ _ _ _ _ _ _ _ _
   | exact ih3 _ _ _ _ _ _ _ _ _ _ _ _ _ _ _ _ _ _ _ _ _
   | exact ih4 _ _ _ _ _ _ _ _ _ _ _ _ _ _
   | exact ih5 _ _ _ _ _ _ _ _ _
   | exact ih6 _ _ _ _
   | exact ih7 _ _ _ _ _
   | exact ih8 _ _ _ _ _ _ _ _ _ _
   | exact ih9 _ _ _ _ _ _ _ _ _ _ _ _ _ _
   | exact ih10 _ _ _ _ _ _
   | exact ih11 _ _ _ _ _ _
   | exact ih12 _ _ _ _ _ _ _
   | exact ih13 _ _ _ _ _
   | exact impl_ChanceOfStays.mono _ _ _ _
   | exact impl_ChanceTogether.mono _ _ _ _
   | exact impl_CountAllWithin.mono _ _ _ _
   | exact impl_CountApart.mono _ _ _
   | exact impl_CountTogether.mono _ _ _ _
   | exact impl_EvenChance.mono _ _ _
   | exact impl_LeastStay.mono _ _ _ _
   | exact impl_MeanApart.mono _ _
   | exact laws_yLow.mono _ _ _
   | exact spec_ChanceOfStays.mono _ _ _ _
   | exact spec_ChanceTogether.mono _ _ _ _
   | exact spec_CountAllWithin.mono _ _ _ _
   | exact spec_CountApart.mono _ _ _
   | exact spec_CountTogether.mono _ _ _ _
   | exact spec_EvenChance.mono _ _ _
   | exact spec_LeastStay.mono _ _ _ _
   | exact spec_MeanApart.mono _ _
   | exact LeO.none _
   | refine LeO.ite ?_ ?_
   | refine LeO.bind ?_ (fun _ => ?_)

end Go.Proofs.Ytojbcpklmegjpaa.QFnVisitsChance
