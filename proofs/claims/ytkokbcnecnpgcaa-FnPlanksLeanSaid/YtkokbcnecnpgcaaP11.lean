import Derived.Test.YtkokbcnecnpgcaaP4
import Derived.Test.YtkokbcnecnpgcaaP5
import Derived.Test.YtkokbcnecnpgcaaP6
import Derived.Test.YtkokbcnecnpgcaaP7
import Derived.Test.YtkokbcnecnpgcaaP8
import Derived.Test.YtkokbcnecnpgcaaP9
import Derived.Test.YtkokbcnecnpgcaaP10
section
-- Written by a program of this session (wip/tools/mp.py) over the kit's print of the translation.
namespace Go.Proofs.Ytkokbcnecnpgcaa.X
open Go.Proofs.Ytkokbcnecnpgcaa.Sq Go.RowKit Go.Proofs.YtkokbcnecnpgcaaW.PrintWords Go.Proofs.YtkokbcnecnpgcaaW.PrintLast Go.Proofs.YtkokbcnecnpgcaaW.PrintMore
attribute [local go_sem] max2_int min2_int max_two min_two max_three min_three max_four min_four   -- for this text's walks alone
set_option linter.unusedVariables false
set_option linter.unusedSimpArgs false
/-! ### laws_FnPlanksLean: function 3 -/
mutual
def laws_FnPlanksLean.j2 : Nat → List Int → Option (Bool)
 | 0, _ => none
 | k + 1, x1 => (spec_DrawLeansUpTo.f x1).bind fun t524 => ((impl_LeansUpTo.f k t524).bind fun bt525 => ((spec_LeansUpTo.f k t524).bind fun bt529 => ((impl_PrimeLeans.f k t524).bind fun bt533 => ((spec_PrimeLeans.f k t524).bind fun bt537 => ((spec_DrawStepOut.f x1).bind fun bt541 => ((impl_StepOut.f k bt541.1 bt541.2.1 bt541.2.2).bind fun bt544 => ((spec_StepOut.f k bt541.1 bt541.2.1 bt541.2.2).bind fun bt547 => ((spec_DrawLeanHeight.f x1).bind fun bt550 => ((impl_LeanHeight.f k bt550.1 bt550.2).bind fun bt552 => ((spec_LeanHeight.f k bt550.1 bt550.2).bind fun bt555 => ((spec_DrawCanSquare.f x1).bind fun bt558 => ((impl_CanSquare.f bt558.1 bt558.2).bind fun bt560 => ((spec_CanSquare.f bt558.1 bt558.2).bind fun bt562 => ((spec_DrawLeastSquarePlank.f x1).bind fun t564 => ((impl_LeastSquarePlank.f k t564).bind fun bt565 => ((spec_LeastSquarePlank.f k t564).bind fun bt567 => ((spec_DrawGreatestSquare.f x1).bind fun t569 => ((impl_GreatestSquare.f k t569).bind fun bt570 => ((spec_GreatestSquare.f k t569).bind fun bt572 => ((spec_DrawCanTurn.f x1).bind fun bt574 => ((impl_CanTurn.f k bt574.1 bt574.2.1 bt574.2.2).bind fun bt577 => ((spec_CanTurn.f k bt574.1 bt574.2.1 bt574.2.2).bind fun bt579 => (if (bt525.2 != bt529.2) = true then (none) else ((laws_kRows.f k bt525.1 bt529.1).bind fun t581 => (if t581 = true then (if (bt533.2 != bt537.2) = true then (none) else ((laws_kRows.f k bt533.1 bt537.1).bind fun t582 => (if t582 = true then (if (bt533.2 != bt525.2) = true then (none) else (if (bt544.2.2 != bt547.2.2) = true then (none) else (if bt544.1 = bt547.1 then (if bt544.2.1 = bt547.2.1 then (if (bt552.2.2 != bt555.2.2) = true then (none) else (if bt552.1 = bt555.1 then (if bt552.2.1 = bt555.2.1 then (if (bt560.2 != bt562.2) = true then (none) else (if (bt560.1 != bt562.1) = true then (none) else (if (bt565.2 != bt567.2) = true then (none) else (if bt565.1 = bt567.1 then (if (bt570.2 != bt572.2) = true then (none) else (if bt570.1 = bt572.1 then (if (bt577.2 != bt579.2) = true then (none) else (if (bt577.1 != bt579.1) = true then (none) else (if bt525.2 = true then (laws_FnPlanksLean.l1 k t524 bt525.1 bt533.1 bt541.1 bt541.2.1 bt541.2.2 bt544.1 bt544.2.1 bt544.2.2 bt550.1 bt550.2 bt552.1 bt552.2.1 bt552.2.2 bt558.1 bt558.2 bt560.1 bt560.2 t564 bt565.1 bt565.2 t569 bt570.1 bt570.2 bt574.1 bt574.2.1 bt574.2.2 bt577.1 bt577.2 0 bt525.1 (bt525.1.length : Int) 0) else (laws_FnPlanksLean.j6 k bt541.1 bt541.2.1 bt541.2.2 bt544.1 bt544.2.1 bt544.2.2 bt550.1 bt550.2 bt552.1 bt552.2.1 bt552.2.2 bt558.1 bt558.2 bt560.1 bt560.2 t564 bt565.1 bt565.2 t569 bt570.1 bt570.2 bt574.1 bt574.2.1 bt574.2.2 bt577.1 bt577.2)))) else (none))) else (none))))) else (none)) else (none))) else (none)) else (none)))) else (none)))) else (none))))))))))))))))))))))))))
def laws_FnPlanksLean.j6 : Nat → Int → Int → Int → Int → Int → Bool → Int → Int → Int → Int → Bool → Int → Int → Bool → Bool → Int → Int → Bool → Int → Int → Bool → Int → Int → Int → Bool → Bool → Option (Bool)
 | 0, _, _, _, _, _, _, _, _, _, _, _, _, _, _, _, _, _, _, _, _, _, _, _, _, _, _ => none
 | k + 1, x26, x27, x28, x29, x30, x31, x35, x36, x37, x38, x39, x43, x44, x45, x46, x49, x50, x51, x54, x55, x56, x59, x60, x61, x62, x63 => if x31 = true then ((impl_LeanHeight.f k x26 (wrap64 (x27 + x28))).bind fun bt677 => ((impl_LeanHeight.f k x26 x27).bind fun bt680 => (if bt677.2.2 = true then (if bt677.1 = x29 then (if bt677.2.1 = x30 then (if bt680.2.2 = true then (if bt680.1 < x29 then (none) else (laws_FnPlanksLean.j7 k x35 x36 x37 x38 x39 x43 x44 x45 x46 x49 x50 x51 x54 x55 x56 x59 x60 x61 x62 x63)) else (none)) else (none)) else (none)) else (none)))) else (laws_FnPlanksLean.j7 k x35 x36 x37 x38 x39 x43 x44 x45 x46 x49 x50 x51 x54 x55 x56 x59 x60 x61 x62 x63)
def laws_FnPlanksLean.j7 : Nat → Int → Int → Int → Int → Bool → Int → Int → Bool → Bool → Int → Int → Bool → Int → Int → Bool → Int → Int → Int → Bool → Bool → Option (Bool)
 | 0, _, _, _, _, _, _, _, _, _, _, _, _, _, _, _, _, _, _, _, _ => none
 | k + 1, x35, x36, x37, x38, x39, x43, x44, x45, x46, x49, x50, x51, x54, x55, x56, x59, x60, x61, x62, x63 => if x39 = true then (if x37 < 0 then (none) else (if x38 < 0 then (none) else (if (wrap64 ((wrap64 ((wrap64 (x37 * x37)) + x38)) + (wrap64 (x36 * x36)))) = (wrap64 (x35 * x35)) then (laws_FnPlanksLean.j8 k x43 x44 x45 x46 x49 x50 x51 x54 x55 x56 x59 x60 x61 x62 x63 (decide (x38 > (wrap64 (2 * x37))))) else (none)))) else (laws_FnPlanksLean.j8 k x43 x44 x45 x46 x49 x50 x51 x54 x55 x56 x59 x60 x61 x62 x63 false)
def laws_FnPlanksLean.j8 : Nat → Int → Int → Bool → Bool → Int → Int → Bool → Int → Int → Bool → Int → Int → Int → Bool → Bool → Bool → Option (Bool)
 | 0, _, _, _, _, _, _, _, _, _, _, _, _, _, _, _, _ => none
 | k + 1, x43, x44, x45, x46, x49, x50, x51, x54, x55, x56, x59, x60, x61, x62, x63, x631 => if x631 = true then (none) else (if x46 = true then ((impl_LeastSquarePlank.f k x43).bind fun bt1833 => (if bt1833.2 = true then (if (x45 != (decide (x44 ≥ bt1833.1))) = true then (none) else (laws_FnPlanksLean.j9 k x49 x50 x51 x54 x55 x56 x59 x60 x61 x62 x63)) else (none))) else (laws_FnPlanksLean.j9 k x49 x50 x51 x54 x55 x56 x59 x60 x61 x62 x63))
def laws_FnPlanksLean.j9 : Nat → Int → Int → Bool → Int → Int → Bool → Int → Int → Int → Bool → Bool → Option (Bool)
 | 0, _, _, _, _, _, _, _, _, _, _, _ => none
 | k + 1, x49, x50, x51, x54, x55, x56, x59, x60, x61, x62, x63 => if x51 = true then (laws_FnPlanksLean.j10 k x49 x50 x54 x55 x56 x59 x60 x61 x62 x63 (decide (x50 ≤ 200))) else (laws_FnPlanksLean.j10 k x49 x50 x54 x55 x56 x59 x60 x61 x62 x63 false)
def laws_FnPlanksLean.j10 : Nat → Int → Int → Int → Int → Bool → Int → Int → Int → Bool → Bool → Bool → Option (Bool)
 | 0, _, _, _, _, _, _, _, _, _, _, _ => none
 | k + 1, x49, x50, x54, x55, x56, x59, x60, x61, x62, x63, x651 => if x651 = true then ((impl_CanSquare.f x49 x50).bind fun bt2143 => (if bt2143.2 = true then (if bt2143.1 = true then (laws_FnPlanksLean.j11 k x54 x55 x56 x59 x60 x61 x62 x63) else (none)) else (none))) else (laws_FnPlanksLean.j11 k x54 x55 x56 x59 x60 x61 x62 x63)
def laws_FnPlanksLean.j11 : Nat → Int → Int → Bool → Int → Int → Int → Bool → Bool → Option (Bool)
 | 0, _, _, _, _, _, _, _, _ => none
 | k + 1, x54, x55, x56, x59, x60, x61, x62, x63 => if x56 = true then (laws_FnPlanksLean.j12 k x54 x55 x59 x60 x61 x62 x63 (decide (x55 < 100))) else (laws_FnPlanksLean.j12 k x54 x55 x59 x60 x61 x62 x63 false)
def laws_FnPlanksLean.j12 : Nat → Int → Int → Int → Int → Int → Bool → Bool → Bool → Option (Bool)
 | 0, _, _, _, _, _, _, _, _ => none
 | k + 1, x54, x55, x59, x60, x61, x62, x63, x668 => if x668 = true then ((impl_CanSquare.f x55 x54).bind fun bt2189 => ((impl_CanSquare.f (wrap64 (x55 + 1)) x54).bind fun bt2191 => (if bt2189.2 = true then (if bt2189.1 = true then (if bt2191.2 = true then (if bt2191.1 = true then (none) else (laws_FnPlanksLean.j13 k x59 x60 x61 x62 x63)) else (none)) else (none)) else (none)))) else (laws_FnPlanksLean.j13 k x59 x60 x61 x62 x63)
def laws_FnPlanksLean.j13 : Nat → Int → Int → Int → Bool → Bool → Option (Bool)
 | 0, _, _, _, _, _ => none
 | k + 1, x59, x60, x61, x62, x63 => if x63 = true then (if x61 > 1 then (laws_FnPlanksLean.j14 k x59 x60 x61 x62 x62) else (laws_FnPlanksLean.j14 k x59 x60 x61 x62 false)) else (some true)
def laws_FnPlanksLean.j14 : Nat → Int → Int → Int → Bool → Bool → Option (Bool)
 | 0, _, _, _, _, _ => none
 | k + 1, x59, x60, x61, x62, x700 => if x700 = true then ((impl_CanTurn.f k x59 x60 (wrap64 (x61 - 1))).bind fun bt2203 => (if bt2203.2 = true then (if bt2203.1 = true then (if x61 ≤ x59 then (if x62 = true then (if x61 ≤ x60 then (some true) else (some true)) else (none)) else (if x61 ≤ x60 then (if x62 = true then (some true) else (none)) else (some true))) else (none)) else (none))) else (if x61 ≤ x59 then (if x62 = true then (if x61 ≤ x60 then (some true) else (some true)) else (none)) else (if x61 ≤ x60 then (if x62 = true then (some true) else (none)) else (some true)))
def laws_FnPlanksLean.l1 : Nat → Int → List (List Int) → List (List Int) → Int → Int → Int → Int → Int → Bool → Int → Int → Int → Int → Bool → Int → Int → Bool → Bool → Int → Int → Bool → Int → Int → Bool → Int → Int → Int → Bool → Bool → Int → List (List Int) → Int → Int → Option (Bool)
 | 0, _, _, _, _, _, _, _, _, _, _, _, _, _, _, _, _, _, _, _, _, _, _, _, _, _, _, _, _, _, _, _, _, _ => none
 | k + 1, x17, x18, x22, x26, x27, x28, x29, x30, x31, x35, x36, x37, x38, x39, x43, x44, x45, x46, x49, x50, x51, x54, x55, x56, x59, x60, x61, x62, x63, x66, x436, x437, x438 => if x438 < x437 then (if 0 ≤ x438 then (if x438 < (x436.length : Int) then (if ((rd_L2 x436 x438).length : Int) = 3 then (if 0 < ((rd_L2 x436 x438).length : Int) then (if 1 < ((rd_L2 x436 x438).length : Int) then (if 2 < ((rd_L2 x436 x438).length : Int) then (if (wrap64 ((wrap64 ((rd (rd_L2 x436 x438) 0) * (rd (rd_L2 x436 x438) 0))) + (wrap64 ((rd (rd_L2 x436 x438) 1) * (rd (rd_L2 x436 x438) 1))))) = (wrap64 ((rd (rd_L2 x436 x438) 2) * (rd (rd_L2 x436 x438) 2))) then (if (rd (rd_L2 x436 x438) 2) > x17 then (none) else (if (rd (rd_L2 x436 x438) 0) > (rd (rd_L2 x436 x438) 1) then (none) else (if x438 > 0 then (if 0 ≤ (wrap64 (x438 - 1)) then (if (wrap64 (x438 - 1)) < (x18.length : Int) then (if 2 < ((rd_L2 x18 (wrap64 (x438 - 1))).length : Int) then (if (rd (rd_L2 x18 (wrap64 (x438 - 1))) 2) > (rd (rd_L2 x436 x438) 2) then (none) else (if (rd (rd_L2 x18 (wrap64 (x438 - 1))) 2) = (rd (rd_L2 x436 x438) 2) then (if 0 < ((rd_L2 x18 (wrap64 (x438 - 1))).length : Int) then (laws_FnPlanksLean.j4 k x17 x18 x22 x26 x27 x28 x29 x30 x31 x35 x36 x37 x38 x39 x43 x44 x45 x46 x49 x50 x51 x54 x55 x56 x59 x60 x61 x62 x63 x66 (rd_L2 x436 x438) x436 x437 x438 (decide ((rd (rd_L2 x18 (wrap64 (x438 - 1))) 0) ≥ (rd (rd_L2 x436 x438) 0)))) else (none)) else (laws_FnPlanksLean.j4 k x17 x18 x22 x26 x27 x28 x29 x30 x31 x35 x36 x37 x38 x39 x43 x44 x45 x46 x49 x50 x51 x54 x55 x56 x59 x60 x61 x62 x63 x66 (rd_L2 x436 x438) x436 x437 x438 false))) else (none)) else (none)) else (none)) else (laws_FnPlanksLean.j4 k x17 x18 x22 x26 x27 x28 x29 x30 x31 x35 x36 x37 x38 x39 x43 x44 x45 x46 x49 x50 x51 x54 x55 x56 x59 x60 x61 x62 x63 x66 (rd_L2 x436 x438) x436 x437 x438 false)))) else (none)) else (none)) else (none)) else (none)) else (none)) else (none)) else (none)) else (if x66 = (x22.length : Int) then (laws_FnPlanksLean.j6 k x26 x27 x28 x29 x30 x31 x35 x36 x37 x38 x39 x43 x44 x45 x46 x49 x50 x51 x54 x55 x56 x59 x60 x61 x62 x63) else (none))
def laws_FnPlanksLean.j4 : Nat → Int → List (List Int) → List (List Int) → Int → Int → Int → Int → Int → Bool → Int → Int → Int → Int → Bool → Int → Int → Bool → Bool → Int → Int → Bool → Int → Int → Bool → Int → Int → Int → Bool → Bool → Int → List Int → List (List Int) → Int → Int → Bool → Option (Bool)
 | 0, _, _, _, _, _, _, _, _, _, _, _, _, _, _, _, _, _, _, _, _, _, _, _, _, _, _, _, _, _, _, _, _, _, _, _ => none
 | k + 1, x17, x18, x22, x26, x27, x28, x29, x30, x31, x35, x36, x37, x38, x39, x43, x44, x45, x46, x49, x50, x51, x54, x55, x56, x59, x60, x61, x62, x63, x66, x68, x436, x437, x438, x529 => if x529 = true then (none) else (if 0 < (x68.length : Int) then (if 1 < (x68.length : Int) then (laws_FnPlanksLean.l2 k x17 x18 x22 x26 x27 x28 x29 x30 x31 x35 x36 x37 x38 x39 x43 x44 x45 x46 x49 x50 x51 x54 x55 x56 x59 x60 x61 x62 x63 x66 x68 (rd x68 0) (rd x68 1) x436 x437 x438) else (none)) else (none))
def laws_FnPlanksLean.l2 : Nat → Int → List (List Int) → List (List Int) → Int → Int → Int → Int → Int → Bool → Int → Int → Int → Int → Bool → Int → Int → Bool → Bool → Int → Int → Bool → Int → Int → Bool → Int → Int → Int → Bool → Bool → Int → List Int → Int → Int → List (List Int) → Int → Int → Option (Bool)
 | 0, _, _, _, _, _, _, _, _, _, _, _, _, _, _, _, _, _, _, _, _, _, _, _, _, _, _, _, _, _, _, _, _, _, _, _, _ => none
 | k + 1, x17, x18, x22, x26, x27, x28, x29, x30, x31, x35, x36, x37, x38, x39, x43, x44, x45, x46, x49, x50, x51, x54, x55, x56, x59, x60, x61, x62, x63, x66, x68, x69, x70, x436, x437, x438 => if x70 > 0 then (if x70 = 0 then (none) else (laws_FnPlanksLean.l2 k x17 x18 x22 x26 x27 x28 x29 x30 x31 x35 x36 x37 x38 x39 x43 x44 x45 x46 x49 x50 x51 x54 x55 x56 x59 x60 x61 x62 x63 x66 x68 x70 (Int.tmod x69 x70) x436 x437 x438)) else (if x69 = 1 then (if x66 ≥ (x22.length : Int) then (none) else (if 0 ≤ x66 then (if x66 < (x22.length : Int) then ((laws_kSame.f k (rd_L2 x22 x66) x68).bind fun t664 => (if t664 = true then (laws_FnPlanksLean.l1 k x17 x18 x22 x26 x27 x28 x29 x30 x31 x35 x36 x37 x38 x39 x43 x44 x45 x46 x49 x50 x51 x54 x55 x56 x59 x60 x61 x62 x63 (wrap64 (x66 + 1)) x436 x437 (wrap64 (x438 + 1))) else (none))) else (none)) else (none))) else (laws_FnPlanksLean.l1 k x17 x18 x22 x26 x27 x28 x29 x30 x31 x35 x36 x37 x38 x39 x43 x44 x45 x46 x49 x50 x51 x54 x55 x56 x59 x60 x61 x62 x63 x66 x436 x437 (wrap64 (x438 + 1))))
def laws_FnPlanksLean.l0 : Nat → List Int → Int → List (List Int) → List (List Int) → Int → Int → Option (Bool)
 | 0, _, _, _, _, _, _ => none
 | k + 1, x1, x5, x6, x112, x113, x114 => if x114 < x113 then (if 0 ≤ x114 then (if x114 < (x112.length : Int) then (if ((rd_L2 x112 x114).length : Int) = 2 then (if 0 < ((rd_L2 x112 x114).length : Int) then (if (rd (rd_L2 x112 x114) 0) < 1 then (none) else (if 1 < ((rd_L2 x112 x114).length : Int) then (if (rd (rd_L2 x112 x114) 0) > (rd (rd_L2 x112 x114) 1) then (none) else (if (wrap64 ((wrap64 ((rd (rd_L2 x112 x114) 0) * (rd (rd_L2 x112 x114) 0))) + (wrap64 ((rd (rd_L2 x112 x114) 1) * (rd (rd_L2 x112 x114) 1))))) = (wrap64 (x5 * x5)) then (if x114 > 0 then (if 0 ≤ (wrap64 (x114 - 1)) then (if (wrap64 (x114 - 1)) < (x6.length : Int) then (if 0 < ((rd_L2 x6 (wrap64 (x114 - 1))).length : Int) then (laws_FnPlanksLean.j1 k x1 x5 x6 (rd_L2 x112 x114) x112 x113 x114 (decide ((rd (rd_L2 x6 (wrap64 (x114 - 1))) 0) ≥ (rd (rd_L2 x112 x114) 0)))) else (none)) else (none)) else (none)) else (laws_FnPlanksLean.j1 k x1 x5 x6 (rd_L2 x112 x114) x112 x113 x114 false)) else (none))) else (none))) else (none)) else (none)) else (none)) else (none)) else (if (wrap64 (2 * x5)) ≤ 200 then ((impl_WholeLeans.f k (wrap64 (2 * x5))).bind fun bt420 => (if bt420.2 = true then (if (bt420.1.length : Int) < (x6.length : Int) then (none) else (laws_FnPlanksLean.j2 k x1)) else (none))) else (laws_FnPlanksLean.j2 k x1))
def laws_FnPlanksLean.j1 : Nat → List Int → Int → List (List Int) → List Int → List (List Int) → Int → Int → Bool → Option (Bool)
 | 0, _, _, _, _, _, _, _, _ => none
 | k + 1, x1, x5, x6, x11, x112, x113, x114, x174 => if x174 = true then (none) else (if 0 < (x11.length : Int) then ((impl_LeanHeight.f k x5 (rd x11 0)).bind fun bt412 => (if bt412.2.2 = true then (if 1 < (x11.length : Int) then (if bt412.1 = (rd x11 1) then (if bt412.2.1 = 0 then (laws_FnPlanksLean.l0 k x1 x5 x6 x112 x113 (wrap64 (x114 + 1))) else (none)) else (none)) else (none)) else (none))) else (none))
end
def laws_FnPlanksLean.f (k : Nat) (l0 : List Int) (l1 : List Int) : Option (Bool) := (laws_big.f l0 l1).bind fun t347 => (if t347 = true then (some true) else ((spec_DrawWholeLeans.f l0).bind fun t366 => ((impl_WholeLeans.f k t366).bind fun bt367 => ((spec_WholeLeans.f k t366).bind fun bt371 => (if (bt367.2 != bt371.2) = true then (none) else ((laws_kRows.f k bt367.1 bt371.1).bind fun t375 => (if t375 = true then (if bt367.2 = true then (laws_FnPlanksLean.l0 k l1 t366 bt367.1 bt367.1 (bt367.1.length : Int) 0) else (laws_FnPlanksLean.j2 k l1)) else (none))))))))
/-- The statements from the one on whose first region has the number i. -/
def headR : Code → Option Nat
  | .region i _ _ => some i
  | .seq a _ => headR a
  | _ => none
def dropTo (i : Nat) : Code → Code
  | .seq a b => if headR a = some i then .seq a b else dropTo i b
  | c => c
set_option maxHeartbeats 8000000 in
set_option maxRecDepth 1000000 in
theorem laws_FnPlanksLean.part6 {u0 u1 u2 u3 u4 u5 u6 u7 u8 u9 u10 u11 u12 u13 u14 u15 u16 u17 u18 u19 u20 u21 u22 u23 u24 u25 u32 u33 u34 u40 u41 u42 u47 u48 u52 u53 u57 u58 u64 u65 u66 u67 u68 u69 u70 u71 u72 u73 u74 u75 u76 u77 u78 u79 u80 u81 u82 u83 u84 u85 u86 u87 u88 u89 u90 u91 u92 u93 u94 u95 u96 u97 u98 u99 u100 u101 u102 u103 u104 u105 u106 u107 u108 u109 u110 u111 u112 u113 u114 u115 u116 u117 u118 u119 u120 u121 u122 u123 u124 u125 u126 u127 u128 u129 u130 u131 u132 u133 u134 u135 u136 u137 u138 u139 u140 u141 u142 u143 u144 u145 u146 u147 u148 u149 u150 u151 u152 u153 u154 u155 u156 u157 u158 u159 u160 u161 u162 u163 u164 u165 u166 u167 u168 u169 u170 u171 u172 u173 u174 u175 u176 u177 u178 u179 u180 u181 u182 u183 u184 u185 u186 u187 u188 u189 u190 u191 u192 u193 u194 u195 u196 u197 u198 u199 u200 u201 u202 u203 u204 u205 u206 u207 u208 u209 u210 u211 u212 u213 u214 u215 u216 u217 u218 u219 u220 u221 u222 u223 u224 u225 u226 u227 u228 u229 u230 u231 u232 u233 u234 u235 u236 u237 u238 u239 u240 u241 u242 u243 u244 u245 u246 u247 u248 u249 u250 u251 u252 u253 u254 u255 u256 u257 u258 u259 u260 u261 u262 u263 u264 u265 u266 u267 u268 u269 u270 u271 u272 u273 u274 u275 u276 u277 u278 u279 u280 u281 u282 u283 u284 u285 u286 u287 u288 u289 u290 u291 u292 u293 u294 u295 u296 u297 u298 u299 u300 u301 u302 u303 u304 u305 u306 u307 u308 u309 u310 u311 u312 u313 u314 u315 u316 u317 u318 u319 u320 u321 u322 u323 u324 u325 u326 u327 u328 u329 u330 u331 u332 u333 u334 u335 u336 u337 u338 u339 u340 u341 u342 u343 u344 u345 u346 u347 u348 u349 u350 u351 u352 u353 u354 u355 u356 u357 u358 u359 u360 u361 u362 u363 u364 u365 u366 u367 u368 u369 u370 u371 u372 u373 u374 u375 u376 u377 u378 u379 u380 u381 u382 u383 u384 u385 u386 u387 u388 u389 u390 u391 u392 u393 u394 u395 u396 u397 u398 u399 u400 u401 u402 u403 u404 u405 u406 u407 u408 u409 u410 u411 u412 u413 u414 u415 u416 u417 u418 u419 u420 u421 u422 u423 u424 u425 u426 u427 u428 u429 u430 u431 u432 u433 u434 u435 u436 u437 u438 u439 u440 u441 u442 u443 u444 u445 u446 u447 u448 u449 u450 u451 u452 u453 u454 u455 u456 u457 u458 u459 u460 u461 u462 u463 u464 u465 u466 u467 u468 u469 u470 u471 u472 u473 u474 u475 u476 u477 u478 u479 u480 u481 u482 u483 u484 u485 u486 u487 u488 u489 u490 u491 u492 u493 u494 u495 u496 u497 u498 u499 u500 u501 u502 u503 u504 u505 u506 u507 u508 u509 u510 u511 u512 u513 u514 u515 u516 u517 u518 u519 u520 u521 u522 u523 u524 u525 u526 u527 u528 u529 u530 u531 u532 u533 u534 u535 u536 u537 u538 u539 u540 u541 u542 u543 u544 u545 u546 u547 u548 u549 u550 u551 u552 u553 u554 u555 u556 u557 u558 u559 u560 u561 u562 u563 u564 u565 u566 u567 u568 u569 u570 u571 u572 u573 u574 u575 u576 u577 u578 u579 u580 u581 u582 u583 u584 u585 u586 u587 u588 u589 u590 u591 u592 u593 u594 u595 u596 u597 u598 u599 u600 u601 u602 u603 u604 u605 u606 u607 u608 u609 u610 u611 u612 u613 u614 u615 u616 u617 u618 u619 u620 u621 u622 u623 u624 u625 u626 u627 u628 u629 u630 u631 u632 u633 u634 u635 u636 u637 u638 u639 u640 u641 u642 u643 u644 u645 u646 u647 u648 u649 u650 u651 u652 u653 u654 u655 u656 u657 u658 u659 u660 u661 u662 u663 u664 u665 u666 u667 u668 u669 u670 u671 u672 u673 u674 u675 u676 u677 u678 u679 u680 u681 u682 u683 u684 u685 u686 u687 u688 u689 u690 u691 u692 u693 u694 u695 u696 u697 u698 u699 u700 u701 u702 u703 u704 u705 u706 u707 u708 u709 u710 u711 u712 u713 u714 u715 u716 u717 u718 u719 u720 u721 u722 u723 u724 u725 u726 u727 u728 u729 u730 : Value} (kq kj10 : Nat) (t541 : Int) (t542 : Int) (t543 : Int) (t544 : Int) (t545 : Int) (t546 : Bool) (t550 : Int) (t551 : Int) (t552 : Int) (t553 : Int) (t554 : Bool) (t558 : Int) (t559 : Int) (t560 : Bool) (t561 : Bool) (t564 : Int) (t565 : Int) (t566 : Bool) (t569 : Int) (t570 : Int) (t571 : Bool) (t574 : Int) (t575 : Int) (t576 : Int) (t577 : Bool) (t578 : Bool) (r : Bool) (w wc : World) (HA : Aside0 (laws_FnPlanksLean.j6 kq t541 t542 t543 t544 t545 t546 t550 t551 t552 t553 t554 t558 t559 t560 t561 t564 t565 t566 t569 t570 t571 t574 t575 t576 t577 t578 = some r)) (HJ89 : Aside0 (kq ≤ kj10)) (HB : Aside0 (Below w.heap.size w wc)) :
  Code.wp Try.prog (dropTo 64 (Try.f3.body.getD .skip)) (bodyPost Try.prog Try.f3 fun e w' => e = .returned (.bool r) ∧ Below w.heap.size w w') ⟨#[u0, u1, u2, u3, u4, u5, u6, u7, u8, u9, u10, u11, u12, u13, u14, u15, u16, u17, u18, u19, u20, u21, u22, u23, u24, u25, Value.int .i64 t541, Value.int .i64 t542, Value.int .i64 t543, Value.int .i64 t544, Value.int .i64 t545, Value.bool t546, u32, u33, u34, Value.int .i64 t550, Value.int .i64 t551, Value.int .i64 t552, Value.int .i64 t553, Value.bool t554, u40, u41, u42, Value.int .i64 t558, Value.int .i64 t559, Value.bool t560, Value.bool t561, u47, u48, Value.int .i64 t564, Value.int .i64 t565, Value.bool t566, u52, u53, Value.int .i64 t569, Value.int .i64 t570, Value.bool t571, u57, u58, Value.int .i64 t574, Value.int .i64 t575, Value.int .i64 t576, Value.bool t577, Value.bool t578, u64, u65, u66, u67, u68, u69, u70, u71, u72, u73, u74, u75, u76, u77, u78, u79, u80, u81, u82, u83, u84, u85, u86, u87, u88, u89, u90, u91, u92, u93, u94, u95, u96, u97, u98, u99, u100, u101, u102, u103, u104, u105, u106, u107, u108, u109, u110, u111, u112, u113, u114, u115, u116, u117, u118, u119, u120, u121, u122, u123, u124, u125, u126, u127, u128, u129, u130, u131, u132, u133, u134, u135, u136, u137, u138, u139, u140, u141, u142, u143, u144, u145, u146, u147, u148, u149, u150, u151, u152, u153, u154, u155, u156, u157, u158, u159, u160, u161, u162, u163, u164, u165, u166, u167, u168, u169, u170, u171, u172, u173, u174, u175, u176, u177, u178, u179, u180, u181, u182, u183, u184, u185, u186, u187, u188, u189, u190, u191, u192, u193, u194, u195, u196, u197, u198, u199, u200, u201, u202, u203, u204, u205, u206, u207, u208, u209, u210, u211, u212, u213, u214, u215, u216, u217, u218, u219, u220, u221, u222, u223, u224, u225, u226, u227, u228, u229, u230, u231, u232, u233, u234, u235, u236, u237, u238, u239, u240, u241, u242, u243, u244, u245, u246, u247, u248, u249, u250, u251, u252, u253, u254, u255, u256, u257, u258, u259, u260, u261, u262, u263, u264, u265, u266, u267, u268, u269, u270, u271, u272, u273, u274, u275, u276, u277, u278, u279, u280, u281, u282, u283, u284, u285, u286, u287, u288, u289, u290, u291, u292, u293, u294, u295, u296, u297, u298, u299, u300, u301, u302, u303, u304, u305, u306, u307, u308, u309, u310, u311, u312, u313, u314, u315, u316, u317, u318, u319, u320, u321, u322, u323, u324, u325, u326, u327, u328, u329, u330, u331, u332, u333, u334, u335, u336, u337, u338, u339, u340, u341, u342, u343, u344, u345, u346, u347, u348, u349, u350, u351, u352, u353, u354, u355, u356, u357, u358, u359, u360, u361, u362, u363, u364, u365, u366, u367, u368, u369, u370, u371, u372, u373, u374, u375, u376, u377, u378, u379, u380, u381, u382, u383, u384, u385, u386, u387, u388, u389, u390, u391, u392, u393, u394, u395, u396, u397, u398, u399, u400, u401, u402, u403, u404, u405, u406, u407, u408, u409, u410, u411, u412, u413, u414, u415, u416, u417, u418, u419, u420, u421, u422, u423, u424, u425, u426, u427, u428, u429, u430, u431, u432, u433, u434, u435, u436, u437, u438, u439, u440, u441, u442, u443, u444, u445, u446, u447, u448, u449, u450, u451, u452, u453, u454, u455, u456, u457, u458, u459, u460, u461, u462, u463, u464, u465, u466, u467, u468, u469, u470, u471, u472, u473, u474, u475, u476, u477, u478, u479, u480, u481, u482, u483, u484, u485, u486, u487, u488, u489, u490, u491, u492, u493, u494, u495, u496, u497, u498, u499, u500, u501, u502, u503, u504, u505, u506, u507, u508, u509, u510, u511, u512, u513, u514, u515, u516, u517, u518, u519, u520, u521, u522, u523, u524, u525, u526, u527, u528, u529, u530, u531, u532, u533, u534, u535, u536, u537, u538, u539, u540, u541, u542, u543, u544, u545, u546, u547, u548, u549, u550, u551, u552, u553, u554, u555, u556, u557, u558, u559, u560, u561, u562, u563, u564, u565, u566, u567, u568, u569, u570, u571, u572, u573, u574, u575, u576, u577, u578, u579, u580, u581, u582, u583, u584, u585, u586, u587, u588, u589, u590, u591, u592, u593, u594, u595, u596, u597, u598, u599, u600, u601, u602, u603, u604, u605, u606, u607, u608, u609, u610, u611, u612, u613, u614, u615, u616, u617, u618, u619, u620, u621, u622, u623, u624, u625, u626, u627, u628, u629, u630, u631, u632, u633, u634, u635, u636, u637, u638, u639, u640, u641, u642, u643, u644, u645, u646, u647, u648, u649, u650, u651, u652, u653, u654, u655, u656, u657, u658, u659, u660, u661, u662, u663, u664, u665, u666, u667, u668, u669, u670, u671, u672, u673, u674, u675, u676, u677, u678, u679, u680, u681, u682, u683, u684, u685, u686, u687, u688, u689, u690, u691, u692, u693, u694, u695, u696, u697, u698, u699, u700, u701, u702, u703, u704, u705, u706, u707, u708, u709, u710, u711, u712, u713, u714, u715, u716, u717, u718, u719, u720, u721, u722, u723, u724, u725, u726, u727, u728, u729, u730], []⟩ wc := by
 conv => arg 2; whnf
 (try dsimp only [List.append])
 cases kq with
 | zero => exact absurd HA.out (by simp [laws_FnPlanksLean.j6])
 | succ kj89 =>
  have H := HA.out
  clear HA
  simp only [laws_FnPlanksLean.j6] at H
  have HC138 := am H; clear H
  go_upto_if 564 with (fail)
  repeat (go_quiet (fail); go_upto_if 564 with (fail))
  go_cut [] from 9999 (fun wc => ∃ (kq : Nat), Aside0 (laws_FnPlanksLean.j7 kq t550 t551 t552 t553 t554 t558 t559 t560 t561 t564 t565 t566 t569 t570 t571 t574 t575 t576 t577 t578 = some r) ∧ Aside0 (kq ≤ kj89) ∧ Aside0 (Below w.heap.size w wc))
  case first =>
   have H := HC138.out
   clear HC138
   by_cases c139 : t546 = true
   ·subst c139
    rw [if_pos rfl] at H
    (try dsimp only at H); replace H := Option.bind_eq_some_iff.mp H; obtain ⟨⟨t677, t678, t679⟩, A1400, H⟩ := H; (try dsimp only at H); have A140 := am A1400; clear A1400; replace H := Option.bind_eq_some_iff.mp H; obtain ⟨⟨t680, t681, t682⟩, A1410, H⟩ := H; (try dsimp only at H); have A141 := am A1410; clear A1410
    by_cases c142 : t679 = true
    rotate_left
    ·replace c142 := Bool.eq_false_iff.mpr c142
     subst c142
     rw [if_neg (show ¬ (false = true) by decide)] at H
     (try dsimp only at H)
     exact absurd H (by simp)
    subst c142
    rw [if_pos rfl] at H
    (try dsimp only at H); obtain ⟨c143, H⟩ := itP H
    have c143b0 : (t677 == t544) = true := beq_iff_eq.mpr c143
    have c143b1 : (t677 != t544) = false := bne_eq_false_iff_eq.mpr c143
    clear c143
    (first | rw [c143b0] | (simp only [i64_w, i32_w]; rw [c143b0]) | skip)
    obtain ⟨c144, H⟩ := itP H
    have c144b0 : (t678 == t545) = true := beq_iff_eq.mpr c144
    have c144b1 : (t678 != t545) = false := bne_eq_false_iff_eq.mpr c144
    clear c144
    by_cases c145 : t682 = true
    rotate_left
    ·replace c145 := Bool.eq_false_iff.mpr c145
     subst c145
     rw [if_neg (show ¬ (false = true) by decide)] at H
     (try dsimp only at H)
     exact absurd H (by simp)
    subst c145
    rw [if_pos rfl] at H
    (try dsimp only at H); obtain ⟨c146, H⟩ := itN H; have c146b0 : decide (t680 < t544) = false := decide_eq_false c146; clear c146
    have H' := am H
    clear H
    go_wp2_with (first | (go_at_call 9; (with_reducible refine (impl_LeanHeight.calls kj89 t541 (wrap64 (t542 + t543)) t677 t678 true _ A140.out).mono ?_); rintro e w' ⟨rfl, ⟨nd, rfl⟩⟩; (try first | exact ⟨rfl, _, World.drewN_drewN _ _ _⟩ | exact ⟨rfl, _, Eq.trans (World.drewN_drewN _ _ _) (congrArg (World.drewN _) (Nat.add_assoc _ _ _))⟩)) | (go_at_call 9; (with_reducible refine (impl_LeanHeight.calls kj89 t541 t542 t680 t681 true _ A141.out).mono ?_); rintro e w' ⟨rfl, ⟨nd, rfl⟩⟩; (try first | exact ⟨rfl, _, World.drewN_drewN _ _ _⟩ | exact ⟨rfl, _, Eq.trans (World.drewN_drewN _ _ _) (congrArg (World.drewN _) (Nat.add_assoc _ _ _))⟩)))
    repeat (go_quiet (first | (go_at_call 9; (with_reducible refine (impl_LeanHeight.calls kj89 t541 (wrap64 (t542 + t543)) t677 t678 true _ A140.out).mono ?_); rintro e w' ⟨rfl, ⟨nd, rfl⟩⟩; (try first | exact ⟨rfl, _, World.drewN_drewN _ _ _⟩ | exact ⟨rfl, _, Eq.trans (World.drewN_drewN _ _ _) (congrArg (World.drewN _) (Nat.add_assoc _ _ _))⟩)) | (go_at_call 9; (with_reducible refine (impl_LeanHeight.calls kj89 t541 t542 t680 t681 true _ A141.out).mono ?_); rintro e w' ⟨rfl, ⟨nd, rfl⟩⟩; (try first | exact ⟨rfl, _, World.drewN_drewN _ _ _⟩ | exact ⟨rfl, _, Eq.trans (World.drewN_drewN _ _ _) (congrArg (World.drewN _) (Nat.add_assoc _ _ _))⟩))); try go_wp2_with (first | (go_at_call 9; (with_reducible refine (impl_LeanHeight.calls kj89 t541 (wrap64 (t542 + t543)) t677 t678 true _ A140.out).mono ?_); rintro e w' ⟨rfl, ⟨nd, rfl⟩⟩; (try first | exact ⟨rfl, _, World.drewN_drewN _ _ _⟩ | exact ⟨rfl, _, Eq.trans (World.drewN_drewN _ _ _) (congrArg (World.drewN _) (Nat.add_assoc _ _ _))⟩)) | (go_at_call 9; (with_reducible refine (impl_LeanHeight.calls kj89 t541 t542 t680 t681 true _ A141.out).mono ?_); rintro e w' ⟨rfl, ⟨nd, rfl⟩⟩; (try first | exact ⟨rfl, _, World.drewN_drewN _ _ _⟩ | exact ⟨rfl, _, Eq.trans (World.drewN_drewN _ _ _) (congrArg (World.drewN _) (Nat.add_assoc _ _ _))⟩))))
    go_meet
    case rel => exact ⟨_, H', ⟨by have := HJ89.out; first | omega | exact Nat.le_refl _⟩, ⟨hbS HB.out⟩⟩
   ·replace c139 := Bool.eq_false_iff.mpr c139
    subst c139
    rw [if_neg (show ¬ (false = true) by decide)] at H
    (try dsimp only at H)
    have H' := am H
    clear H
    go_wp2
    repeat (go_quiet (fail); try go_wp2)
    go_meet
    case rel => exact ⟨_, H', ⟨by have := HJ89.out; first | omega | exact Nat.le_refl _⟩, ⟨hbS HB.out⟩⟩
  case rest =>
   clear HC138; (try clear c1); (try clear p2); (try clear c6); (try clear p6); (try clear q6); (try clear hx6); (try clear qi6); (try clear c10); (try clear c11); (try clear c12); (try clear c13); (try clear c14); (try clear c61); (try clear p61); (try clear q61); (try clear hx61); (try clear qi61); (try clear c62); (try clear p62); (try clear q62); (try clear hx62); (try clear qi62); (try clear p63); (try clear q63); (try clear hx63); (try clear qi63); (try clear p64); (try clear p65); (try clear q65); (try clear hx65); (try clear qi65); (try clear c66); (try clear p66); (try clear q66); (try clear hx66); (try clear qi66); (try clear c106); (try clear c107); (try clear c107b0); (try clear c108); (try clear c108b0); (try clear c109); (try clear c109b0); (try clear c111); (try clear c111b0); (try clear c111b1); (try clear c112); (try clear c112b0); (try clear c112b1); (try clear c113); (try clear c113b0); (try clear c113b1); (try clear c114); (try clear c114b0); (try clear c114b1); (try clear c115); (try clear c115b0); (try clear c115b1); (try clear c116); (try clear c116b0); (try clear c117); (try clear c117b0); (try clear c118); (try clear c118b0); (try clear c120); (try clear c120b0); (try clear c121); (try clear c121b0); (try clear c122); (try clear c122b0); (try clear c122b1); (try clear c123); (try clear c123b0); (try clear c124); (try clear c124b0); (try clear c124b1); (try clear c125); (try clear c125b0); (try clear c125b1); (try clear c126); (try clear c127); (try clear c127b0); (try clear c127b1); (try clear c128); (try clear c128b0); (try clear c128b1); (try clear c129); (try clear c129b0); (try clear c130); (try clear c130b0); (try clear c130b1); (try clear c131); (try clear c131b0); (try clear c131b1); (try clear c132); (try clear c132b0); (try clear c133); (try clear c133b0); (try clear c134); (try clear c134b0); (try clear c136); (try clear c137); (try clear c137b0); (try clear c137b1); (try clear c139); (try clear c142); (try clear c143); (try clear c143b0); (try clear c143b1); (try clear c144); (try clear c144b0); (try clear c144b1); (try clear c145); (try clear c146); (try clear c146b0); (try clear hx612_0); (try clear hx613_0); (try clear hx614_0); (try clear hx615_0); (try clear hx616_0); (try clear hx617_0); (try clear hx618_0); (try clear hx619_0); (try clear hx620_0); (try clear hx621_0); (try clear hx622_0); (try clear hx623_0); (try clear hx624_0); (try clear hx625_0); (try clear hx626_0); (try clear hx627_0); (try clear hx628_0); (try clear hx629_0); (try clear hx630_0); (try clear hx659_0); (try clear hx660_0); (try clear hx663_0); (try clear p2); (try clear p6); (try clear p61); (try clear p612); (try clear p613); (try clear p614); (try clear p615); (try clear p616); (try clear p617); (try clear p618); (try clear p619); (try clear p62); (try clear p620); (try clear p621); (try clear p622); (try clear p623); (try clear p624); (try clear p625); (try clear p626); (try clear p627); (try clear p628); (try clear p629); (try clear p63); (try clear p630); (try clear p64); (try clear p65); (try clear p659); (try clear p66); (try clear p660); (try clear p663); (try clear q6); (try clear q61); (try clear q612); (try clear q613); (try clear q614); (try clear q615); (try clear q616); (try clear q617); (try clear q618); (try clear q619); (try clear q62); (try clear q620); (try clear q621); (try clear q622); (try clear q623); (try clear q624); (try clear q625); (try clear q626); (try clear q627); (try clear q628); (try clear q629); (try clear q63); (try clear q630); (try clear q65); (try clear q659); (try clear q66); (try clear q660); (try clear q663); obtain ⟨kq, HA, HJ137, HB⟩ := hcut
   cases kq with
   | zero => exact absurd HA.out (by simp [laws_FnPlanksLean.j7])
   | succ kj137 =>
    have H := HA.out
    clear HA
    simp only [laws_FnPlanksLean.j7] at H
    have HC147 := am H; clear H
    go_upto_region 69 with (fail)
    repeat (go_quiet (fail); go_upto_region 69 with (fail))
    go_cut [631] from 9999 (fun v631 wc => ∃ (kq : Nat) (x631_146 : Bool), v631 = .bool x631_146 ∧ Aside0 (laws_FnPlanksLean.j8 kq t558 t559 t560 t561 t564 t565 t566 t569 t570 t571 t574 t575 t576 t577 t578 x631_146 = some r) ∧ Aside0 (kq ≤ kj137) ∧ Aside0 (Below w.heap.size w wc))
    case first =>
     have H := HC147.out
     clear HC147
     by_cases c148 : t554 = true
     ·subst c148
      rw [if_pos rfl] at H
      (try dsimp only at H); obtain ⟨c149, H⟩ := itN H; have c149b0 : decide (t552 < 0) = false := decide_eq_false c149; clear c149
      (first | rw [c149b0] | (simp only [i64_w, i32_w]; rw [c149b0]) | skip)
      obtain ⟨c150, H⟩ := itN H; have c150b0 : decide (t553 < 0) = false := decide_eq_false c150; clear c150; obtain ⟨c151, H⟩ := itP H
      have c151b0 : ((wrap64 ((wrap64 ((wrap64 (t552 * t552)) + t553)) + (wrap64 (t551 * t551)))) == (wrap64 (t550 * t550))) = true := beq_iff_eq.mpr c151
      have c151b1 : ((wrap64 ((wrap64 ((wrap64 (t552 * t552)) + t553)) + (wrap64 (t551 * t551)))) != (wrap64 (t550 * t550))) = false := bne_eq_false_iff_eq.mpr c151
      clear c151
      have H' := am H
      clear H
      go_wp2
      repeat (go_quiet (fail); try go_wp2)
      go_meet
      case rel => exact ⟨_, (decide (t553 > (wrap64 (2 * t552)))), (by first | rfl | (simp; done) | (simp [*]; done)), H', ⟨by have := HJ89.out; have := HJ137.out; first | omega | exact Nat.le_refl _⟩, ⟨hbS HB.out⟩⟩
     ·replace c148 := Bool.eq_false_iff.mpr c148
      subst c148
      rw [if_neg (show ¬ (false = true) by decide)] at H
      (try dsimp only at H)
      have H' := am H
      clear H
      go_wp2
      repeat (go_quiet (fail); try go_wp2)
      go_meet
      case rel => exact ⟨_, (false), (by first | rfl | (simp; done) | (simp [*]; done)), H', ⟨by have := HJ89.out; have := HJ137.out; first | omega | exact Nat.le_refl _⟩, ⟨hbS HB.out⟩⟩
    case rest =>
     clear HC147; (try clear c1); (try clear p2); (try clear c6); (try clear p6); (try clear q6); (try clear hx6); (try clear qi6); (try clear c10); (try clear c11); (try clear c12); (try clear c13); (try clear c14); (try clear c15); (try clear c61); (try clear p61); (try clear q61); (try clear hx61); (try clear qi61); (try clear c62); (try clear p62); (try clear q62); (try clear hx62); (try clear qi62); (try clear p63); (try clear q63); (try clear hx63); (try clear qi63); (try clear p64); (try clear p65); (try clear q65); (try clear hx65); (try clear qi65); (try clear c66); (try clear p66); (try clear q66); (try clear hx66); (try clear qi66); (try clear c106); (try clear c107); (try clear c107b0); (try clear c108); (try clear c108b0); (try clear c109); (try clear c109b0); (try clear c111); (try clear c111b0); (try clear c111b1); (try clear c112); (try clear c112b0); (try clear c112b1); (try clear c113); (try clear c113b0); (try clear c113b1); (try clear c114); (try clear c114b0); (try clear c114b1); (try clear c115); (try clear c115b0); (try clear c115b1); (try clear c116); (try clear c116b0); (try clear c117); (try clear c117b0); (try clear c118); (try clear c118b0); (try clear c120); (try clear c120b0); (try clear c121); (try clear c121b0); (try clear c122); (try clear c122b0); (try clear c122b1); (try clear c123); (try clear c123b0); (try clear c124); (try clear c124b0); (try clear c124b1); (try clear c125); (try clear c125b0); (try clear c125b1); (try clear c126); (try clear c127); (try clear c127b0); (try clear c127b1); (try clear c128); (try clear c128b0); (try clear c128b1); (try clear c129); (try clear c129b0); (try clear c130); (try clear c130b0); (try clear c130b1); (try clear c131); (try clear c131b0); (try clear c131b1); (try clear c132); (try clear c132b0); (try clear c133); (try clear c133b0); (try clear c134); (try clear c134b0); (try clear c136); (try clear c137); (try clear c137b0); (try clear c137b1); (try clear c139); (try clear c142); (try clear c143); (try clear c143b0); (try clear c143b1); (try clear c144); (try clear c144b0); (try clear c144b1); (try clear c145); (try clear c146); (try clear c146b0); (try clear c148); (try clear c149); (try clear c149b0); (try clear c150); (try clear c150b0); (try clear c151); (try clear c151b0); (try clear c151b1); (try clear hx612_0); (try clear hx613_0); (try clear hx614_0); (try clear hx615_0); (try clear hx616_0); (try clear hx617_0); (try clear hx618_0); (try clear hx619_0); (try clear hx620_0); (try clear hx621_0); (try clear hx622_0); (try clear hx623_0); (try clear hx624_0); (try clear hx625_0); (try clear hx626_0); (try clear hx627_0); (try clear hx628_0); (try clear hx629_0); (try clear hx630_0); (try clear hx659_0); (try clear hx660_0); (try clear hx663_0); (try clear p2); (try clear p6); (try clear p61); (try clear p612); (try clear p613); (try clear p614); (try clear p615); (try clear p616); (try clear p617); (try clear p618); (try clear p619); (try clear p62); (try clear p620); (try clear p621); (try clear p622); (try clear p623); (try clear p624); (try clear p625); (try clear p626); (try clear p627); (try clear p628); (try clear p629); (try clear p63); (try clear p630); (try clear p64); (try clear p65); (try clear p659); (try clear p66); (try clear p660); (try clear p663); (try clear q6); (try clear q61); (try clear q612); (try clear q613); (try clear q614); (try clear q615); (try clear q616); (try clear q617); (try clear q618); (try clear q619); (try clear q62); (try clear q620); (try clear q621); (try clear q622); (try clear q623); (try clear q624); (try clear q625); (try clear q626); (try clear q627); (try clear q628); (try clear q629); (try clear q63); (try clear q630); (try clear q65); (try clear q659); (try clear q66); (try clear q660); (try clear q663); obtain ⟨kq, x631_146, rfl, HA, HJ146, HB⟩ := hcut
     cases kq with
     | zero => exact absurd HA.out (by simp [laws_FnPlanksLean.j8])
     | succ kj146 =>
      have H := HA.out
      clear HA
      simp only [laws_FnPlanksLean.j8] at H
      by_cases c152 : x631_146 = true
      ·subst c152
       rw [if_pos rfl] at H
       (try dsimp only at H)
       exact absurd H (by simp)
      replace c152 := Bool.eq_false_iff.mpr c152
      subst c152
      rw [if_neg (show ¬ (false = true) by decide)] at H
      (try dsimp only at H); have HC153 := am H; clear H
      go_upto_if 632 with (fail)
      repeat (go_quiet (fail); go_upto_if 632 with (fail))
      go_cut [] from 9999 (fun wc => ∃ (kq : Nat), Aside0 (laws_FnPlanksLean.j9 kq t564 t565 t566 t569 t570 t571 t574 t575 t576 t577 t578 = some r) ∧ Aside0 (kq ≤ kj146) ∧ Aside0 (Below w.heap.size w wc))
      case first =>
       have H := HC153.out
       clear HC153
       by_cases c154 : t561 = true
       ·subst c154
        rw [if_pos rfl] at H
        (try dsimp only at H); replace H := Option.bind_eq_some_iff.mp H; obtain ⟨⟨t1833, t1834⟩, A1550, H⟩ := H; (try dsimp only at H); have A155 := am A1550; clear A1550
        by_cases c156 : t1834 = true
        rotate_left
        ·replace c156 := Bool.eq_false_iff.mpr c156
         subst c156
         rw [if_neg (show ¬ (false = true) by decide)] at H
         (try dsimp only at H)
         exact absurd H (by simp)
        subst c156
        rw [if_pos rfl] at H
        (try dsimp only at H); obtain ⟨c157, H⟩ := itN H
        have c157b0 : (t560 != (decide (t559 ≥ t1833))) = false := by simpa using c157
        (try (have c157b1 : decide (t560 = (decide (t559 ≥ t1833))) = true := by simpa using c157))
        (try (have c157b2 : (t560 == (decide (t559 ≥ t1833))) = true := by simpa using c157))
        clear c157
        (first | rw [c157b0] | (simp only [i64_w, i32_w]; rw [c157b0]) | rw [c157b1] | skip)
        have H' := am H
        clear H
        go_wp2_with (first | (go_at_call 24; (with_reducible refine (impl_LeastSquarePlank.calls kj146 t558 t1833 true _ A155.out).mono ?_); rintro e w' ⟨rfl, ⟨nd, rfl⟩⟩; (try first | exact ⟨rfl, _, World.drewN_drewN _ _ _⟩ | exact ⟨rfl, _, Eq.trans (World.drewN_drewN _ _ _) (congrArg (World.drewN _) (Nat.add_assoc _ _ _))⟩)))
        repeat (go_quiet (first | (go_at_call 24; (with_reducible refine (impl_LeastSquarePlank.calls kj146 t558 t1833 true _ A155.out).mono ?_); rintro e w' ⟨rfl, ⟨nd, rfl⟩⟩; (try first | exact ⟨rfl, _, World.drewN_drewN _ _ _⟩ | exact ⟨rfl, _, Eq.trans (World.drewN_drewN _ _ _) (congrArg (World.drewN _) (Nat.add_assoc _ _ _))⟩))); try go_wp2_with (first | (go_at_call 24; (with_reducible refine (impl_LeastSquarePlank.calls kj146 t558 t1833 true _ A155.out).mono ?_); rintro e w' ⟨rfl, ⟨nd, rfl⟩⟩; (try first | exact ⟨rfl, _, World.drewN_drewN _ _ _⟩ | exact ⟨rfl, _, Eq.trans (World.drewN_drewN _ _ _) (congrArg (World.drewN _) (Nat.add_assoc _ _ _))⟩))))
        go_meet
        case rel => exact ⟨_, H', ⟨by have := HJ89.out; have := HJ137.out; have := HJ146.out; first | omega | exact Nat.le_refl _⟩, ⟨hbS HB.out⟩⟩
       ·replace c154 := Bool.eq_false_iff.mpr c154
        subst c154
        rw [if_neg (show ¬ (false = true) by decide)] at H
        (try dsimp only at H)
        have H' := am H
        clear H
        go_wp2
        repeat (go_quiet (fail); try go_wp2)
        go_meet
        case rel => exact ⟨_, H', ⟨by have := HJ89.out; have := HJ137.out; have := HJ146.out; first | omega | exact Nat.le_refl _⟩, ⟨hbS HB.out⟩⟩
      case rest =>
       clear HC153; (try clear c1); (try clear p2); (try clear c6); (try clear p6); (try clear q6); (try clear hx6); (try clear qi6); (try clear c10); (try clear c11); (try clear c12); (try clear c13); (try clear c14); (try clear c15); (try clear c61); (try clear p61); (try clear q61); (try clear hx61); (try clear qi61); (try clear c62); (try clear p62); (try clear q62); (try clear hx62); (try clear qi62); (try clear p63); (try clear q63); (try clear hx63); (try clear qi63); (try clear p64); (try clear p65); (try clear q65); (try clear hx65); (try clear qi65); (try clear c66); (try clear p66); (try clear q66); (try clear hx66); (try clear qi66); (try clear c106); (try clear c107); (try clear c107b0); (try clear c108); (try clear c108b0); (try clear c109); (try clear c109b0); (try clear c111); (try clear c111b0); (try clear c111b1); (try clear c112); (try clear c112b0); (try clear c112b1); (try clear c113); (try clear c113b0); (try clear c113b1); (try clear c114); (try clear c114b0); (try clear c114b1); (try clear c115); (try clear c115b0); (try clear c115b1); (try clear c116); (try clear c116b0); (try clear c117); (try clear c117b0); (try clear c118); (try clear c118b0); (try clear c120); (try clear c120b0); (try clear c121); (try clear c121b0); (try clear c122); (try clear c122b0); (try clear c122b1); (try clear c123); (try clear c123b0); (try clear c124); (try clear c124b0); (try clear c124b1); (try clear c125); (try clear c125b0); (try clear c125b1); (try clear c126); (try clear c127); (try clear c127b0); (try clear c127b1); (try clear c128); (try clear c128b0); (try clear c128b1); (try clear c129); (try clear c129b0); (try clear c130); (try clear c130b0); (try clear c130b1); (try clear c131); (try clear c131b0); (try clear c131b1); (try clear c132); (try clear c132b0); (try clear c133); (try clear c133b0); (try clear c134); (try clear c134b0); (try clear c136); (try clear c137); (try clear c137b0); (try clear c137b1); (try clear c139); (try clear c142); (try clear c143); (try clear c143b0); (try clear c143b1); (try clear c144); (try clear c144b0); (try clear c144b1); (try clear c145); (try clear c146); (try clear c146b0); (try clear c148); (try clear c149); (try clear c149b0); (try clear c150); (try clear c150b0); (try clear c151); (try clear c151b0); (try clear c151b1); (try clear c152); (try clear c154); (try clear c156); (try clear c157); (try clear c157b0); (try clear c157b1); (try clear c157b2); (try clear hx612_0); (try clear hx613_0); (try clear hx614_0); (try clear hx615_0); (try clear hx616_0); (try clear hx617_0); (try clear hx618_0); (try clear hx619_0); (try clear hx620_0); (try clear hx621_0); (try clear hx622_0); (try clear hx623_0); (try clear hx624_0); (try clear hx625_0); (try clear hx626_0); (try clear hx627_0); (try clear hx628_0); (try clear hx629_0); (try clear hx630_0); (try clear hx659_0); (try clear hx660_0); (try clear hx663_0); (try clear p2); (try clear p6); (try clear p61); (try clear p612); (try clear p613); (try clear p614); (try clear p615); (try clear p616); (try clear p617); (try clear p618); (try clear p619); (try clear p62); (try clear p620); (try clear p621); (try clear p622); (try clear p623); (try clear p624); (try clear p625); (try clear p626); (try clear p627); (try clear p628); (try clear p629); (try clear p63); (try clear p630); (try clear p64); (try clear p65); (try clear p659); (try clear p66); (try clear p660); (try clear p663); (try clear q6); (try clear q61); (try clear q612); (try clear q613); (try clear q614); (try clear q615); (try clear q616); (try clear q617); (try clear q618); (try clear q619); (try clear q62); (try clear q620); (try clear q621); (try clear q622); (try clear q623); (try clear q624); (try clear q625); (try clear q626); (try clear q627); (try clear q628); (try clear q629); (try clear q63); (try clear q630); (try clear q65); (try clear q659); (try clear q66); (try clear q660); (try clear q663); obtain ⟨kq, HA, HJ152, HB⟩ := hcut
       cases kq with
       | zero => exact absurd HA.out (by simp [laws_FnPlanksLean.j9])
       | succ kj152 =>
        have H := HA.out
        clear HA
        simp only [laws_FnPlanksLean.j9] at H
        have HC158 := am H; clear H
        go_upto_region 75 with (fail)
        repeat (go_quiet (fail); go_upto_region 75 with (fail))
        go_cut [651] from 9999 (fun v651 wc => ∃ (kq : Nat) (x651_157 : Bool), v651 = .bool x651_157 ∧ Aside0 (laws_FnPlanksLean.j10 kq t564 t565 t569 t570 t571 t574 t575 t576 t577 t578 x651_157 = some r) ∧ Aside0 (kq ≤ kj152) ∧ Aside0 (Below w.heap.size w wc))
        case first =>
         have H := HC158.out
         clear HC158
         by_cases c159 : t566 = true
         ·subst c159
          rw [if_pos rfl] at H
          (try dsimp only at H)
          have H' := am H
          clear H
          go_wp2
          repeat (go_quiet (fail); try go_wp2)
          go_meet
          case rel => exact ⟨_, (decide (t565 ≤ 200)), (by first | rfl | (simp; done) | (simp [*]; done)), H', ⟨by have := HJ89.out; have := HJ137.out; have := HJ146.out; have := HJ152.out; first | omega | exact Nat.le_refl _⟩, ⟨hbS HB.out⟩⟩
         ·replace c159 := Bool.eq_false_iff.mpr c159
          subst c159
          rw [if_neg (show ¬ (false = true) by decide)] at H
          (try dsimp only at H)
          have H' := am H
          clear H
          go_wp2
          repeat (go_quiet (fail); try go_wp2)
          go_meet
          case rel => exact ⟨_, (false), (by first | rfl | (simp; done) | (simp [*]; done)), H', ⟨by have := HJ89.out; have := HJ137.out; have := HJ146.out; have := HJ152.out; first | omega | exact Nat.le_refl _⟩, ⟨hbS HB.out⟩⟩
        case rest =>
         clear HC158; (try clear c1); (try clear p2); (try clear c6); (try clear p6); (try clear q6); (try clear hx6); (try clear qi6); (try clear c10); (try clear c11); (try clear c12); (try clear c13); (try clear c14); (try clear c15); (try clear c61); (try clear p61); (try clear q61); (try clear hx61); (try clear qi61); (try clear c62); (try clear p62); (try clear q62); (try clear hx62); (try clear qi62); (try clear p63); (try clear q63); (try clear hx63); (try clear qi63); (try clear p64); (try clear p65); (try clear q65); (try clear hx65); (try clear qi65); (try clear c66); (try clear p66); (try clear q66); (try clear hx66); (try clear qi66); (try clear c106); (try clear c107); (try clear c107b0); (try clear c108); (try clear c108b0); (try clear c109); (try clear c109b0); (try clear c111); (try clear c111b0); (try clear c111b1); (try clear c112); (try clear c112b0); (try clear c112b1); (try clear c113); (try clear c113b0); (try clear c113b1); (try clear c114); (try clear c114b0); (try clear c114b1); (try clear c115); (try clear c115b0); (try clear c115b1); (try clear c116); (try clear c116b0); (try clear c117); (try clear c117b0); (try clear c118); (try clear c118b0); (try clear c120); (try clear c120b0); (try clear c121); (try clear c121b0); (try clear c122); (try clear c122b0); (try clear c122b1); (try clear c123); (try clear c123b0); (try clear c124); (try clear c124b0); (try clear c124b1); (try clear c125); (try clear c125b0); (try clear c125b1); (try clear c126); (try clear c127); (try clear c127b0); (try clear c127b1); (try clear c128); (try clear c128b0); (try clear c128b1); (try clear c129); (try clear c129b0); (try clear c130); (try clear c130b0); (try clear c130b1); (try clear c131); (try clear c131b0); (try clear c131b1); (try clear c132); (try clear c132b0); (try clear c133); (try clear c133b0); (try clear c134); (try clear c134b0); (try clear c136); (try clear c137); (try clear c137b0); (try clear c137b1); (try clear c139); (try clear c142); (try clear c143); (try clear c143b0); (try clear c143b1); (try clear c144); (try clear c144b0); (try clear c144b1); (try clear c145); (try clear c146); (try clear c146b0); (try clear c148); (try clear c149); (try clear c149b0); (try clear c150); (try clear c150b0); (try clear c151); (try clear c151b0); (try clear c151b1); (try clear c152); (try clear c154); (try clear c156); (try clear c157); (try clear c157b0); (try clear c157b1); (try clear c157b2); (try clear c159); (try clear hx612_0); (try clear hx613_0); (try clear hx614_0); (try clear hx615_0); (try clear hx616_0); (try clear hx617_0); (try clear hx618_0); (try clear hx619_0); (try clear hx620_0); (try clear hx621_0); (try clear hx622_0); (try clear hx623_0); (try clear hx624_0); (try clear hx625_0); (try clear hx626_0); (try clear hx627_0); (try clear hx628_0); (try clear hx629_0); (try clear hx630_0); (try clear hx659_0); (try clear hx660_0); (try clear hx663_0); (try clear p2); (try clear p6); (try clear p61); (try clear p612); (try clear p613); (try clear p614); (try clear p615); (try clear p616); (try clear p617); (try clear p618); (try clear p619); (try clear p62); (try clear p620); (try clear p621); (try clear p622); (try clear p623); (try clear p624); (try clear p625); (try clear p626); (try clear p627); (try clear p628); (try clear p629); (try clear p63); (try clear p630); (try clear p64); (try clear p65); (try clear p659); (try clear p66); (try clear p660); (try clear p663); (try clear q6); (try clear q61); (try clear q612); (try clear q613); (try clear q614); (try clear q615); (try clear q616); (try clear q617); (try clear q618); (try clear q619); (try clear q62); (try clear q620); (try clear q621); (try clear q622); (try clear q623); (try clear q624); (try clear q625); (try clear q626); (try clear q627); (try clear q628); (try clear q629); (try clear q63); (try clear q630); (try clear q65); (try clear q659); (try clear q66); (try clear q660); (try clear q663); obtain ⟨kq, x651_157, rfl, HA, HJ157, HB⟩ := hcut
         cases kq with
         | zero => exact absurd HA.out (by simp [laws_FnPlanksLean.j10])
         | succ kj157 =>
          have H := HA.out
          clear HA
          simp only [laws_FnPlanksLean.j10] at H
          have HC160 := am H; clear H
          go_upto_if 651 with (fail)
          repeat (go_quiet (fail); go_upto_if 651 with (fail))
          go_cut [] from 9999 (fun wc => ∃ (kq : Nat), Aside0 (laws_FnPlanksLean.j11 kq t569 t570 t571 t574 t575 t576 t577 t578 = some r) ∧ Aside0 (kq ≤ kj157) ∧ Aside0 (Below w.heap.size w wc))
          case first =>
           have H := HC160.out
           clear HC160
           by_cases c161 : x651_157 = true
           ·subst c161
            rw [if_pos rfl] at H
            (try dsimp only at H); replace H := Option.bind_eq_some_iff.mp H; obtain ⟨⟨t2143, t2144⟩, A1620, H⟩ := H; (try dsimp only at H); have A162 := am A1620; clear A1620
            by_cases c163 : t2144 = true
            rotate_left
            ·replace c163 := Bool.eq_false_iff.mpr c163
             subst c163
             rw [if_neg (show ¬ (false = true) by decide)] at H
             (try dsimp only at H)
             exact absurd H (by simp)
            subst c163
            rw [if_pos rfl] at H
            (try dsimp only at H)
            by_cases c164 : t2143 = true
            rotate_left
            ·replace c164 := Bool.eq_false_iff.mpr c164
             subst c164
             rw [if_neg (show ¬ (false = true) by decide)] at H
             (try dsimp only at H)
             exact absurd H (by simp)
            subst c164
            rw [if_pos rfl] at H
            (try dsimp only at H)
            have H' := am H
            clear H
            go_wp2_with (first | (go_at_call 21; (with_reducible refine (impl_CanSquare.calls t564 t565 true true _ A162.out).mono ?_); rintro e w' ⟨rfl, ⟨nd, rfl⟩⟩; (try first | exact ⟨rfl, _, World.drewN_drewN _ _ _⟩ | exact ⟨rfl, _, Eq.trans (World.drewN_drewN _ _ _) (congrArg (World.drewN _) (Nat.add_assoc _ _ _))⟩)))
            repeat (go_quiet (first | (go_at_call 21; (with_reducible refine (impl_CanSquare.calls t564 t565 true true _ A162.out).mono ?_); rintro e w' ⟨rfl, ⟨nd, rfl⟩⟩; (try first | exact ⟨rfl, _, World.drewN_drewN _ _ _⟩ | exact ⟨rfl, _, Eq.trans (World.drewN_drewN _ _ _) (congrArg (World.drewN _) (Nat.add_assoc _ _ _))⟩))); try go_wp2_with (first | (go_at_call 21; (with_reducible refine (impl_CanSquare.calls t564 t565 true true _ A162.out).mono ?_); rintro e w' ⟨rfl, ⟨nd, rfl⟩⟩; (try first | exact ⟨rfl, _, World.drewN_drewN _ _ _⟩ | exact ⟨rfl, _, Eq.trans (World.drewN_drewN _ _ _) (congrArg (World.drewN _) (Nat.add_assoc _ _ _))⟩))))
            go_meet
            case rel => exact ⟨_, H', ⟨by have := HJ89.out; have := HJ137.out; have := HJ146.out; have := HJ152.out; have := HJ157.out; first | omega | exact Nat.le_refl _⟩, ⟨hbS HB.out⟩⟩
           ·replace c161 := Bool.eq_false_iff.mpr c161
            subst c161
            rw [if_neg (show ¬ (false = true) by decide)] at H
            (try dsimp only at H)
            have H' := am H
            clear H
            go_wp2
            repeat (go_quiet (fail); try go_wp2)
            go_meet
            case rel => exact ⟨_, H', ⟨by have := HJ89.out; have := HJ137.out; have := HJ146.out; have := HJ152.out; have := HJ157.out; first | omega | exact Nat.le_refl _⟩, ⟨hbS HB.out⟩⟩
          case rest =>
           clear HC160; (try clear c1); (try clear p2); (try clear c6); (try clear p6); (try clear q6); (try clear hx6); (try clear qi6); (try clear c10); (try clear c11); (try clear c12); (try clear c13); (try clear c14); (try clear c15); (try clear c16); (try clear c61); (try clear p61); (try clear q61); (try clear hx61); (try clear qi61); (try clear c62); (try clear p62); (try clear q62); (try clear hx62); (try clear qi62); (try clear p63); (try clear q63); (try clear hx63); (try clear qi63); (try clear p64); (try clear p65); (try clear q65); (try clear hx65); (try clear qi65); (try clear c66); (try clear p66); (try clear q66); (try clear hx66); (try clear qi66); (try clear c106); (try clear c107); (try clear c107b0); (try clear c108); (try clear c108b0); (try clear c109); (try clear c109b0); (try clear c111); (try clear c111b0); (try clear c111b1); (try clear c112); (try clear c112b0); (try clear c112b1); (try clear c113); (try clear c113b0); (try clear c113b1); (try clear c114); (try clear c114b0); (try clear c114b1); (try clear c115); (try clear c115b0); (try clear c115b1); (try clear c116); (try clear c116b0); (try clear c117); (try clear c117b0); (try clear c118); (try clear c118b0); (try clear c120); (try clear c120b0); (try clear c121); (try clear c121b0); (try clear c122); (try clear c122b0); (try clear c122b1); (try clear c123); (try clear c123b0); (try clear c124); (try clear c124b0); (try clear c124b1); (try clear c125); (try clear c125b0); (try clear c125b1); (try clear c126); (try clear c127); (try clear c127b0); (try clear c127b1); (try clear c128); (try clear c128b0); (try clear c128b1); (try clear c129); (try clear c129b0); (try clear c130); (try clear c130b0); (try clear c130b1); (try clear c131); (try clear c131b0); (try clear c131b1); (try clear c132); (try clear c132b0); (try clear c133); (try clear c133b0); (try clear c134); (try clear c134b0); (try clear c136); (try clear c137); (try clear c137b0); (try clear c137b1); (try clear c139); (try clear c142); (try clear c143); (try clear c143b0); (try clear c143b1); (try clear c144); (try clear c144b0); (try clear c144b1); (try clear c145); (try clear c146); (try clear c146b0); (try clear c148); (try clear c149); (try clear c149b0); (try clear c150); (try clear c150b0); (try clear c151); (try clear c151b0); (try clear c151b1); (try clear c152); (try clear c154); (try clear c156); (try clear c157); (try clear c157b0); (try clear c157b1); (try clear c157b2); (try clear c159); (try clear c161); (try clear c163); (try clear c164); (try clear hx612_0); (try clear hx613_0); (try clear hx614_0); (try clear hx615_0); (try clear hx616_0); (try clear hx617_0); (try clear hx618_0); (try clear hx619_0); (try clear hx620_0); (try clear hx621_0); (try clear hx622_0); (try clear hx623_0); (try clear hx624_0); (try clear hx625_0); (try clear hx626_0); (try clear hx627_0); (try clear hx628_0); (try clear hx629_0); (try clear hx630_0); (try clear hx659_0); (try clear hx660_0); (try clear hx663_0); (try clear p2); (try clear p6); (try clear p61); (try clear p612); (try clear p613); (try clear p614); (try clear p615); (try clear p616); (try clear p617); (try clear p618); (try clear p619); (try clear p62); (try clear p620); (try clear p621); (try clear p622); (try clear p623); (try clear p624); (try clear p625); (try clear p626); (try clear p627); (try clear p628); (try clear p629); (try clear p63); (try clear p630); (try clear p64); (try clear p65); (try clear p659); (try clear p66); (try clear p660); (try clear p663); (try clear q6); (try clear q61); (try clear q612); (try clear q613); (try clear q614); (try clear q615); (try clear q616); (try clear q617); (try clear q618); (try clear q619); (try clear q62); (try clear q620); (try clear q621); (try clear q622); (try clear q623); (try clear q624); (try clear q625); (try clear q626); (try clear q627); (try clear q628); (try clear q629); (try clear q63); (try clear q630); (try clear q65); (try clear q659); (try clear q66); (try clear q660); (try clear q663); obtain ⟨kq, HA, HJ159, HB⟩ := hcut
           cases kq with
           | zero => exact absurd HA.out (by simp [laws_FnPlanksLean.j11])
           | succ kj159 =>
            have H := HA.out
            clear HA
            simp only [laws_FnPlanksLean.j11] at H
            have HC165 := am H; clear H
            go_upto_region 79 with (fail)
            repeat (go_quiet (fail); go_upto_region 79 with (fail))
            go_cut [668] from 9999 (fun v668 wc => ∃ (kq : Nat) (x668_164 : Bool), v668 = .bool x668_164 ∧ Aside0 (laws_FnPlanksLean.j12 kq t569 t570 t574 t575 t576 t577 t578 x668_164 = some r) ∧ Aside0 (kq ≤ kj159) ∧ Aside0 (Below w.heap.size w wc))
            case first =>
             have H := HC165.out
             clear HC165
             by_cases c166 : t571 = true
             ·subst c166
              rw [if_pos rfl] at H
              (try dsimp only at H)
              have H' := am H
              clear H
              go_wp2
              repeat (go_quiet (fail); try go_wp2)
              go_meet
              case rel => exact ⟨_, (decide (t570 < 100)), (by first | rfl | (simp; done) | (simp [*]; done)), H', ⟨by have := HJ89.out; have := HJ137.out; have := HJ146.out; have := HJ152.out; have := HJ157.out; have := HJ159.out; first | omega | exact Nat.le_refl _⟩, ⟨hbS HB.out⟩⟩
             ·replace c166 := Bool.eq_false_iff.mpr c166
              subst c166
              rw [if_neg (show ¬ (false = true) by decide)] at H
              (try dsimp only at H)
              have H' := am H
              clear H
              go_wp2
              repeat (go_quiet (fail); try go_wp2)
              go_meet
              case rel => exact ⟨_, (false), (by first | rfl | (simp; done) | (simp [*]; done)), H', ⟨by have := HJ89.out; have := HJ137.out; have := HJ146.out; have := HJ152.out; have := HJ157.out; have := HJ159.out; first | omega | exact Nat.le_refl _⟩, ⟨hbS HB.out⟩⟩
            case rest =>
             clear HC165; (try clear c1); (try clear p2); (try clear c6); (try clear p6); (try clear q6); (try clear hx6); (try clear qi6); (try clear c10); (try clear c11); (try clear c12); (try clear c13); (try clear c14); (try clear c15); (try clear c16); (try clear c61); (try clear p61); (try clear q61); (try clear hx61); (try clear qi61); (try clear c62); (try clear p62); (try clear q62); (try clear hx62); (try clear qi62); (try clear p63); (try clear q63); (try clear hx63); (try clear qi63); (try clear p64); (try clear p65); (try clear q65); (try clear hx65); (try clear qi65); (try clear c66); (try clear p66); (try clear q66); (try clear hx66); (try clear qi66); (try clear c106); (try clear c107); (try clear c107b0); (try clear c108); (try clear c108b0); (try clear c109); (try clear c109b0); (try clear c111); (try clear c111b0); (try clear c111b1); (try clear c112); (try clear c112b0); (try clear c112b1); (try clear c113); (try clear c113b0); (try clear c113b1); (try clear c114); (try clear c114b0); (try clear c114b1); (try clear c115); (try clear c115b0); (try clear c115b1); (try clear c116); (try clear c116b0); (try clear c117); (try clear c117b0); (try clear c118); (try clear c118b0); (try clear c120); (try clear c120b0); (try clear c121); (try clear c121b0); (try clear c122); (try clear c122b0); (try clear c122b1); (try clear c123); (try clear c123b0); (try clear c124); (try clear c124b0); (try clear c124b1); (try clear c125); (try clear c125b0); (try clear c125b1); (try clear c126); (try clear c127); (try clear c127b0); (try clear c127b1); (try clear c128); (try clear c128b0); (try clear c128b1); (try clear c129); (try clear c129b0); (try clear c130); (try clear c130b0); (try clear c130b1); (try clear c131); (try clear c131b0); (try clear c131b1); (try clear c132); (try clear c132b0); (try clear c133); (try clear c133b0); (try clear c134); (try clear c134b0); (try clear c136); (try clear c137); (try clear c137b0); (try clear c137b1); (try clear c139); (try clear c142); (try clear c143); (try clear c143b0); (try clear c143b1); (try clear c144); (try clear c144b0); (try clear c144b1); (try clear c145); (try clear c146); (try clear c146b0); (try clear c148); (try clear c149); (try clear c149b0); (try clear c150); (try clear c150b0); (try clear c151); (try clear c151b0); (try clear c151b1); (try clear c152); (try clear c154); (try clear c156); (try clear c157); (try clear c157b0); (try clear c157b1); (try clear c157b2); (try clear c159); (try clear c161); (try clear c163); (try clear c164); (try clear c166); (try clear hx612_0); (try clear hx613_0); (try clear hx614_0); (try clear hx615_0); (try clear hx616_0); (try clear hx617_0); (try clear hx618_0); (try clear hx619_0); (try clear hx620_0); (try clear hx621_0); (try clear hx622_0); (try clear hx623_0); (try clear hx624_0); (try clear hx625_0); (try clear hx626_0); (try clear hx627_0); (try clear hx628_0); (try clear hx629_0); (try clear hx630_0); (try clear hx659_0); (try clear hx660_0); (try clear hx663_0); (try clear p2); (try clear p6); (try clear p61); (try clear p612); (try clear p613); (try clear p614); (try clear p615); (try clear p616); (try clear p617); (try clear p618); (try clear p619); (try clear p62); (try clear p620); (try clear p621); (try clear p622); (try clear p623); (try clear p624); (try clear p625); (try clear p626); (try clear p627); (try clear p628); (try clear p629); (try clear p63); (try clear p630); (try clear p64); (try clear p65); (try clear p659); (try clear p66); (try clear p660); (try clear p663); (try clear q6); (try clear q61); (try clear q612); (try clear q613); (try clear q614); (try clear q615); (try clear q616); (try clear q617); (try clear q618); (try clear q619); (try clear q62); (try clear q620); (try clear q621); (try clear q622); (try clear q623); (try clear q624); (try clear q625); (try clear q626); (try clear q627); (try clear q628); (try clear q629); (try clear q63); (try clear q630); (try clear q65); (try clear q659); (try clear q66); (try clear q660); (try clear q663); obtain ⟨kq, x668_164, rfl, HA, HJ164, HB⟩ := hcut
             cases kq with
             | zero => exact absurd HA.out (by simp [laws_FnPlanksLean.j12])
             | succ kj164 =>
              have H := HA.out
              clear HA
              simp only [laws_FnPlanksLean.j12] at H
              have HC167 := am H; clear H
              go_upto_if 668 with (fail)
              repeat (go_quiet (fail); go_upto_if 668 with (fail))
              go_cut [] from 9999 (fun wc => ∃ (kq : Nat), Aside0 (laws_FnPlanksLean.j13 kq t574 t575 t576 t577 t578 = some r) ∧ Aside0 (kq ≤ kj164) ∧ Aside0 (Below w.heap.size w wc))
              case first =>
               have H := HC167.out
               clear HC167
               by_cases c168 : x668_164 = true
               ·subst c168
                rw [if_pos rfl] at H
                (try dsimp only at H); replace H := Option.bind_eq_some_iff.mp H; obtain ⟨⟨t2189, t2190⟩, A1690, H⟩ := H; (try dsimp only at H); have A169 := am A1690; clear A1690; replace H := Option.bind_eq_some_iff.mp H; obtain ⟨⟨t2191, t2192⟩, A1700, H⟩ := H; (try dsimp only at H); have A170 := am A1700; clear A1700
                by_cases c171 : t2190 = true
                rotate_left
                ·replace c171 := Bool.eq_false_iff.mpr c171
                 subst c171
                 rw [if_neg (show ¬ (false = true) by decide)] at H
                 (try dsimp only at H)
                 exact absurd H (by simp)
                subst c171
                rw [if_pos rfl] at H
                (try dsimp only at H)
                by_cases c172 : t2189 = true
                rotate_left
                ·replace c172 := Bool.eq_false_iff.mpr c172
                 subst c172
                 rw [if_neg (show ¬ (false = true) by decide)] at H
                 (try dsimp only at H)
                 exact absurd H (by simp)
                subst c172
                rw [if_pos rfl] at H
                (try dsimp only at H)
                by_cases c173 : t2192 = true
                rotate_left
                ·replace c173 := Bool.eq_false_iff.mpr c173
                 subst c173
                 rw [if_neg (show ¬ (false = true) by decide)] at H
                 (try dsimp only at H)
                 exact absurd H (by simp)
                subst c173
                rw [if_pos rfl] at H
                (try dsimp only at H)
                by_cases c174 : t2191 = true
                ·subst c174
                 rw [if_pos rfl] at H
                 (try dsimp only at H)
                 exact absurd H (by simp)
                replace c174 := Bool.eq_false_iff.mpr c174
                subst c174
                rw [if_neg (show ¬ (false = true) by decide)] at H
                (try dsimp only at H)
                have H' := am H
                clear H
                go_wp2_with (first | (go_at_call 21; (with_reducible refine (impl_CanSquare.calls t570 t569 true true _ A169.out).mono ?_); rintro e w' ⟨rfl, ⟨nd, rfl⟩⟩; (try first | exact ⟨rfl, _, World.drewN_drewN _ _ _⟩ | exact ⟨rfl, _, Eq.trans (World.drewN_drewN _ _ _) (congrArg (World.drewN _) (Nat.add_assoc _ _ _))⟩)) | (go_at_call 21; (with_reducible refine (impl_CanSquare.calls (wrap64 (t570 + 1)) t569 false true _ A170.out).mono ?_); rintro e w' ⟨rfl, ⟨nd, rfl⟩⟩; (try first | exact ⟨rfl, _, World.drewN_drewN _ _ _⟩ | exact ⟨rfl, _, Eq.trans (World.drewN_drewN _ _ _) (congrArg (World.drewN _) (Nat.add_assoc _ _ _))⟩)))
                repeat (go_quiet (first | (go_at_call 21; (with_reducible refine (impl_CanSquare.calls t570 t569 true true _ A169.out).mono ?_); rintro e w' ⟨rfl, ⟨nd, rfl⟩⟩; (try first | exact ⟨rfl, _, World.drewN_drewN _ _ _⟩ | exact ⟨rfl, _, Eq.trans (World.drewN_drewN _ _ _) (congrArg (World.drewN _) (Nat.add_assoc _ _ _))⟩)) | (go_at_call 21; (with_reducible refine (impl_CanSquare.calls (wrap64 (t570 + 1)) t569 false true _ A170.out).mono ?_); rintro e w' ⟨rfl, ⟨nd, rfl⟩⟩; (try first | exact ⟨rfl, _, World.drewN_drewN _ _ _⟩ | exact ⟨rfl, _, Eq.trans (World.drewN_drewN _ _ _) (congrArg (World.drewN _) (Nat.add_assoc _ _ _))⟩))); try go_wp2_with (first | (go_at_call 21; (with_reducible refine (impl_CanSquare.calls t570 t569 true true _ A169.out).mono ?_); rintro e w' ⟨rfl, ⟨nd, rfl⟩⟩; (try first | exact ⟨rfl, _, World.drewN_drewN _ _ _⟩ | exact ⟨rfl, _, Eq.trans (World.drewN_drewN _ _ _) (congrArg (World.drewN _) (Nat.add_assoc _ _ _))⟩)) | (go_at_call 21; (with_reducible refine (impl_CanSquare.calls (wrap64 (t570 + 1)) t569 false true _ A170.out).mono ?_); rintro e w' ⟨rfl, ⟨nd, rfl⟩⟩; (try first | exact ⟨rfl, _, World.drewN_drewN _ _ _⟩ | exact ⟨rfl, _, Eq.trans (World.drewN_drewN _ _ _) (congrArg (World.drewN _) (Nat.add_assoc _ _ _))⟩))))
                go_meet
                case rel => exact ⟨_, H', ⟨by have := HJ89.out; have := HJ137.out; have := HJ146.out; have := HJ152.out; have := HJ157.out; have := HJ159.out; have := HJ164.out; first | omega | exact Nat.le_refl _⟩, ⟨hbS HB.out⟩⟩
               ·replace c168 := Bool.eq_false_iff.mpr c168
                subst c168
                rw [if_neg (show ¬ (false = true) by decide)] at H
                (try dsimp only at H)
                have H' := am H
                clear H
                go_wp2
                repeat (go_quiet (fail); try go_wp2)
                go_meet
                case rel => exact ⟨_, H', ⟨by have := HJ89.out; have := HJ137.out; have := HJ146.out; have := HJ152.out; have := HJ157.out; have := HJ159.out; have := HJ164.out; first | omega | exact Nat.le_refl _⟩, ⟨hbS HB.out⟩⟩
              case rest =>
               clear HC167; (try clear c1); (try clear p2); (try clear c6); (try clear p6); (try clear q6); (try clear hx6); (try clear qi6); (try clear c10); (try clear c11); (try clear c12); (try clear c13); (try clear c14); (try clear c15); (try clear c16); (try clear c17); (try clear c61); (try clear p61); (try clear q61); (try clear hx61); (try clear qi61); (try clear c62); (try clear p62); (try clear q62); (try clear hx62); (try clear qi62); (try clear p63); (try clear q63); (try clear hx63); (try clear qi63); (try clear p64); (try clear p65); (try clear q65); (try clear hx65); (try clear qi65); (try clear c66); (try clear p66); (try clear q66); (try clear hx66); (try clear qi66); (try clear c106); (try clear c107); (try clear c107b0); (try clear c108); (try clear c108b0); (try clear c109); (try clear c109b0); (try clear c111); (try clear c111b0); (try clear c111b1); (try clear c112); (try clear c112b0); (try clear c112b1); (try clear c113); (try clear c113b0); (try clear c113b1); (try clear c114); (try clear c114b0); (try clear c114b1); (try clear c115); (try clear c115b0); (try clear c115b1); (try clear c116); (try clear c116b0); (try clear c117); (try clear c117b0); (try clear c118); (try clear c118b0); (try clear c120); (try clear c120b0); (try clear c121); (try clear c121b0); (try clear c122); (try clear c122b0); (try clear c122b1); (try clear c123); (try clear c123b0); (try clear c124); (try clear c124b0); (try clear c124b1); (try clear c125); (try clear c125b0); (try clear c125b1); (try clear c126); (try clear c127); (try clear c127b0); (try clear c127b1); (try clear c128); (try clear c128b0); (try clear c128b1); (try clear c129); (try clear c129b0); (try clear c130); (try clear c130b0); (try clear c130b1); (try clear c131); (try clear c131b0); (try clear c131b1); (try clear c132); (try clear c132b0); (try clear c133); (try clear c133b0); (try clear c134); (try clear c134b0); (try clear c136); (try clear c137); (try clear c137b0); (try clear c137b1); (try clear c139); (try clear c142); (try clear c143); (try clear c143b0); (try clear c143b1); (try clear c144); (try clear c144b0); (try clear c144b1); (try clear c145); (try clear c146); (try clear c146b0); (try clear c148); (try clear c149); (try clear c149b0); (try clear c150); (try clear c150b0); (try clear c151); (try clear c151b0); (try clear c151b1); (try clear c152); (try clear c154); (try clear c156); (try clear c157); (try clear c157b0); (try clear c157b1); (try clear c157b2); (try clear c159); (try clear c161); (try clear c163); (try clear c164); (try clear c166); (try clear c168); (try clear c171); (try clear c172); (try clear c173); (try clear c174); (try clear hx612_0); (try clear hx613_0); (try clear hx614_0); (try clear hx615_0); (try clear hx616_0); (try clear hx617_0); (try clear hx618_0); (try clear hx619_0); (try clear hx620_0); (try clear hx621_0); (try clear hx622_0); (try clear hx623_0); (try clear hx624_0); (try clear hx625_0); (try clear hx626_0); (try clear hx627_0); (try clear hx628_0); (try clear hx629_0); (try clear hx630_0); (try clear hx659_0); (try clear hx660_0); (try clear hx663_0); (try clear p2); (try clear p6); (try clear p61); (try clear p612); (try clear p613); (try clear p614); (try clear p615); (try clear p616); (try clear p617); (try clear p618); (try clear p619); (try clear p62); (try clear p620); (try clear p621); (try clear p622); (try clear p623); (try clear p624); (try clear p625); (try clear p626); (try clear p627); (try clear p628); (try clear p629); (try clear p63); (try clear p630); (try clear p64); (try clear p65); (try clear p659); (try clear p66); (try clear p660); (try clear p663); (try clear q6); (try clear q61); (try clear q612); (try clear q613); (try clear q614); (try clear q615); (try clear q616); (try clear q617); (try clear q618); (try clear q619); (try clear q62); (try clear q620); (try clear q621); (try clear q622); (try clear q623); (try clear q624); (try clear q625); (try clear q626); (try clear q627); (try clear q628); (try clear q629); (try clear q63); (try clear q630); (try clear q65); (try clear q659); (try clear q66); (try clear q660); (try clear q663); obtain ⟨kq, HA, HJ166, HB⟩ := hcut
               cases kq with
               | zero => exact absurd HA.out (by simp [laws_FnPlanksLean.j13])
               | succ kj166 =>
                have H := HA.out
                clear HA
                simp only [laws_FnPlanksLean.j13] at H
                by_cases c175 : t578 = true
                ·subst c175
                 rw [if_pos rfl] at H
                 (try dsimp only at H); have HC176 := am H; clear H
                 go_upto_region 85 with (fail)
                 repeat (go_quiet (fail); go_upto_region 85 with (fail))
                 go_cut [700] from 9999 (fun v700 wc => ∃ (kq : Nat) (x700_175 : Bool), v700 = .bool x700_175 ∧ Aside0 (laws_FnPlanksLean.j14 kq t574 t575 t576 t577 x700_175 = some r) ∧ Aside0 (kq ≤ kj166) ∧ Aside0 (Below w.heap.size w wc))
                 case first =>
                  have H := HC176.out
                  clear HC176
                  by_cases c177 : t576 > 1
                  ·rw [if_pos c177] at H
                   have c177b0 : decide (1 < t576) = true := decide_eq_true c177; clear c177
                   (first | rw [c177b0] | (simp only [i64_w, i32_w]; rw [c177b0]) | skip)
                   have H' := am H
                   clear H
                   go_wp2
                   repeat (go_quiet (fail); try go_wp2)
                   go_meet
                   case rel => exact ⟨_, (t577), (by first | rfl | (simp; done) | (simp [*]; done)), H', ⟨by have := HJ89.out; have := HJ137.out; have := HJ146.out; have := HJ152.out; have := HJ157.out; have := HJ159.out; have := HJ164.out; have := HJ166.out; first | omega | exact Nat.le_refl _⟩, ⟨hbS HB.out⟩⟩
                  ·rw [if_neg c177] at H
                   have c177b0 : decide (1 < t576) = false := decide_eq_false c177; clear c177
                   (first | rw [c177b0] | (simp only [i64_w, i32_w]; rw [c177b0]) | skip)
                   have H' := am H
                   clear H
                   go_wp2
                   repeat (go_quiet (fail); try go_wp2)
                   go_meet
                   case rel => exact ⟨_, (false), (by first | rfl | (simp; done) | (simp [*]; done)), H', ⟨by have := HJ89.out; have := HJ137.out; have := HJ146.out; have := HJ152.out; have := HJ157.out; have := HJ159.out; have := HJ164.out; have := HJ166.out; first | omega | exact Nat.le_refl _⟩, ⟨hbS HB.out⟩⟩
                 case rest =>
                  clear HC176; (try clear c1); (try clear p2); (try clear c6); (try clear p6); (try clear q6); (try clear hx6); (try clear qi6); (try clear c10); (try clear c11); (try clear c12); (try clear c13); (try clear c14); (try clear c15); (try clear c16); (try clear c17); (try clear c61); (try clear p61); (try clear q61); (try clear hx61); (try clear qi61); (try clear c62); (try clear p62); (try clear q62); (try clear hx62); (try clear qi62); (try clear p63); (try clear q63); (try clear hx63); (try clear qi63); (try clear p64); (try clear p65); (try clear q65); (try clear hx65); (try clear qi65); (try clear c66); (try clear p66); (try clear q66); (try clear hx66); (try clear qi66); (try clear c106); (try clear c107); (try clear c107b0); (try clear c108); (try clear c108b0); (try clear c109); (try clear c109b0); (try clear c111); (try clear c111b0); (try clear c111b1); (try clear c112); (try clear c112b0); (try clear c112b1); (try clear c113); (try clear c113b0); (try clear c113b1); (try clear c114); (try clear c114b0); (try clear c114b1); (try clear c115); (try clear c115b0); (try clear c115b1); (try clear c116); (try clear c116b0); (try clear c117); (try clear c117b0); (try clear c118); (try clear c118b0); (try clear c120); (try clear c120b0); (try clear c121); (try clear c121b0); (try clear c122); (try clear c122b0); (try clear c122b1); (try clear c123); (try clear c123b0); (try clear c124); (try clear c124b0); (try clear c124b1); (try clear c125); (try clear c125b0); (try clear c125b1); (try clear c126); (try clear c127); (try clear c127b0); (try clear c127b1); (try clear c128); (try clear c128b0); (try clear c128b1); (try clear c129); (try clear c129b0); (try clear c130); (try clear c130b0); (try clear c130b1); (try clear c131); (try clear c131b0); (try clear c131b1); (try clear c132); (try clear c132b0); (try clear c133); (try clear c133b0); (try clear c134); (try clear c134b0); (try clear c136); (try clear c137); (try clear c137b0); (try clear c137b1); (try clear c139); (try clear c142); (try clear c143); (try clear c143b0); (try clear c143b1); (try clear c144); (try clear c144b0); (try clear c144b1); (try clear c145); (try clear c146); (try clear c146b0); (try clear c148); (try clear c149); (try clear c149b0); (try clear c150); (try clear c150b0); (try clear c151); (try clear c151b0); (try clear c151b1); (try clear c152); (try clear c154); (try clear c156); (try clear c157); (try clear c157b0); (try clear c157b1); (try clear c157b2); (try clear c159); (try clear c161); (try clear c163); (try clear c164); (try clear c166); (try clear c168); (try clear c171); (try clear c172); (try clear c173); (try clear c174); (try clear c175); (try clear c177); (try clear c177b0); (try clear hx612_0); (try clear hx613_0); (try clear hx614_0); (try clear hx615_0); (try clear hx616_0); (try clear hx617_0); (try clear hx618_0); (try clear hx619_0); (try clear hx620_0); (try clear hx621_0); (try clear hx622_0); (try clear hx623_0); (try clear hx624_0); (try clear hx625_0); (try clear hx626_0); (try clear hx627_0); (try clear hx628_0); (try clear hx629_0); (try clear hx630_0); (try clear hx659_0); (try clear hx660_0); (try clear hx663_0); (try clear p2); (try clear p6); (try clear p61); (try clear p612); (try clear p613); (try clear p614); (try clear p615); (try clear p616); (try clear p617); (try clear p618); (try clear p619); (try clear p62); (try clear p620); (try clear p621); (try clear p622); (try clear p623); (try clear p624); (try clear p625); (try clear p626); (try clear p627); (try clear p628); (try clear p629); (try clear p63); (try clear p630); (try clear p64); (try clear p65); (try clear p659); (try clear p66); (try clear p660); (try clear p663); (try clear q6); (try clear q61); (try clear q612); (try clear q613); (try clear q614); (try clear q615); (try clear q616); (try clear q617); (try clear q618); (try clear q619); (try clear q62); (try clear q620); (try clear q621); (try clear q622); (try clear q623); (try clear q624); (try clear q625); (try clear q626); (try clear q627); (try clear q628); (try clear q629); (try clear q63); (try clear q630); (try clear q65); (try clear q659); (try clear q66); (try clear q660); (try clear q663); obtain ⟨kq, x700_175, rfl, HA, HJ175, HB⟩ := hcut
                  cases kq with
                  | zero => exact absurd HA.out (by simp [laws_FnPlanksLean.j14])
                  | succ kj175 =>
                   have H := HA.out
                   clear HA
                   simp only [laws_FnPlanksLean.j14] at H
                   by_cases c178 : x700_175 = true
                   ·subst c178
                    rw [if_pos rfl] at H
                    (try dsimp only at H); replace H := Option.bind_eq_some_iff.mp H; obtain ⟨⟨t2203, t2204⟩, A1790, H⟩ := H; (try dsimp only at H); have A179 := am A1790; clear A1790
                    by_cases c180 : t2204 = true
                    rotate_left
                    ·replace c180 := Bool.eq_false_iff.mpr c180
                     subst c180
                     rw [if_neg (show ¬ (false = true) by decide)] at H
                     (try dsimp only at H)
                     exact absurd H (by simp)
                    subst c180
                    rw [if_pos rfl] at H
                    (try dsimp only at H)
                    by_cases c181 : t2203 = true
                    rotate_left
                    ·replace c181 := Bool.eq_false_iff.mpr c181
                     subst c181
                     rw [if_neg (show ¬ (false = true) by decide)] at H
                     (try dsimp only at H)
                     exact absurd H (by simp)
                    subst c181
                    rw [if_pos rfl] at H
                    (try dsimp only at H)
                    by_cases c182 : t576 ≤ t574
                    ·rw [if_pos c182] at H
                     have c182b0 : decide (t576 ≤ t574) = true := decide_eq_true c182; clear c182
                     by_cases c183 : t577 = true
                     rotate_left
                     ·replace c183 := Bool.eq_false_iff.mpr c183
                      subst c183
                      rw [if_neg (show ¬ (false = true) by decide)] at H
                      (try dsimp only at H)
                      exact absurd H (by simp)
                     subst c183
                     rw [if_pos rfl] at H
                     (try dsimp only at H)
                     by_cases c184 : t576 ≤ t575
                     ·rw [if_pos c184] at H
                      have c184b0 : decide (t576 ≤ t575) = true := decide_eq_true c184; clear c184
                      obtain rfl := Option.some.inj H
                      go_wp2_with (first | (go_at_call 30; (with_reducible refine (impl_CanTurn.calls kj175 t574 t575 (wrap64 (t576 - 1)) true true _ A179.out).mono ?_); rintro e w' ⟨rfl, ⟨nd, rfl⟩⟩; (try first | exact ⟨rfl, _, World.drewN_drewN _ _ _⟩ | exact ⟨rfl, _, Eq.trans (World.drewN_drewN _ _ _) (congrArg (World.drewN _) (Nat.add_assoc _ _ _))⟩)))
                      repeat (go_quiet (first | (go_at_call 30; (with_reducible refine (impl_CanTurn.calls kj175 t574 t575 (wrap64 (t576 - 1)) true true _ A179.out).mono ?_); rintro e w' ⟨rfl, ⟨nd, rfl⟩⟩; (try first | exact ⟨rfl, _, World.drewN_drewN _ _ _⟩ | exact ⟨rfl, _, Eq.trans (World.drewN_drewN _ _ _) (congrArg (World.drewN _) (Nat.add_assoc _ _ _))⟩))); try go_wp2_with (first | (go_at_call 30; (with_reducible refine (impl_CanTurn.calls kj175 t574 t575 (wrap64 (t576 - 1)) true true _ A179.out).mono ?_); rintro e w' ⟨rfl, ⟨nd, rfl⟩⟩; (try first | exact ⟨rfl, _, World.drewN_drewN _ _ _⟩ | exact ⟨rfl, _, Eq.trans (World.drewN_drewN _ _ _) (congrArg (World.drewN _) (Nat.add_assoc _ _ _))⟩))))
                      go_ret
                      exact ⟨by first | rfl | (simp [errW_none, errW_some] <;> rfl) | (simp [*, errW_none, errW_some] <;> rfl), hbS HB.out⟩
                     ·rw [if_neg c184] at H
                      have c184b0 : decide (t576 ≤ t575) = false := decide_eq_false c184; clear c184
                      obtain rfl := Option.some.inj H
                      go_wp2_with (first | (go_at_call 30; (with_reducible refine (impl_CanTurn.calls kj175 t574 t575 (wrap64 (t576 - 1)) true true _ A179.out).mono ?_); rintro e w' ⟨rfl, ⟨nd, rfl⟩⟩; (try first | exact ⟨rfl, _, World.drewN_drewN _ _ _⟩ | exact ⟨rfl, _, Eq.trans (World.drewN_drewN _ _ _) (congrArg (World.drewN _) (Nat.add_assoc _ _ _))⟩)))
                      repeat (go_quiet (first | (go_at_call 30; (with_reducible refine (impl_CanTurn.calls kj175 t574 t575 (wrap64 (t576 - 1)) true true _ A179.out).mono ?_); rintro e w' ⟨rfl, ⟨nd, rfl⟩⟩; (try first | exact ⟨rfl, _, World.drewN_drewN _ _ _⟩ | exact ⟨rfl, _, Eq.trans (World.drewN_drewN _ _ _) (congrArg (World.drewN _) (Nat.add_assoc _ _ _))⟩))); try go_wp2_with (first | (go_at_call 30; (with_reducible refine (impl_CanTurn.calls kj175 t574 t575 (wrap64 (t576 - 1)) true true _ A179.out).mono ?_); rintro e w' ⟨rfl, ⟨nd, rfl⟩⟩; (try first | exact ⟨rfl, _, World.drewN_drewN _ _ _⟩ | exact ⟨rfl, _, Eq.trans (World.drewN_drewN _ _ _) (congrArg (World.drewN _) (Nat.add_assoc _ _ _))⟩))))
                      go_ret
                      exact ⟨by first | rfl | (simp [errW_none, errW_some] <;> rfl) | (simp [*, errW_none, errW_some] <;> rfl), hbS HB.out⟩
                    ·rw [if_neg c182] at H
                     have c182b0 : decide (t576 ≤ t574) = false := decide_eq_false c182; clear c182
                     by_cases c185 : t576 ≤ t575
                     ·rw [if_pos c185] at H
                      have c185b0 : decide (t576 ≤ t575) = true := decide_eq_true c185; clear c185
                      by_cases c186 : t577 = true
                      rotate_left
                      ·replace c186 := Bool.eq_false_iff.mpr c186
                       subst c186
                       rw [if_neg (show ¬ (false = true) by decide)] at H
                       (try dsimp only at H)
                       exact absurd H (by simp)
                      subst c186
                      rw [if_pos rfl] at H
                      (try dsimp only at H)
                      obtain rfl := Option.some.inj H
                      go_wp2_with (first | (go_at_call 30; (with_reducible refine (impl_CanTurn.calls kj175 t574 t575 (wrap64 (t576 - 1)) true true _ A179.out).mono ?_); rintro e w' ⟨rfl, ⟨nd, rfl⟩⟩; (try first | exact ⟨rfl, _, World.drewN_drewN _ _ _⟩ | exact ⟨rfl, _, Eq.trans (World.drewN_drewN _ _ _) (congrArg (World.drewN _) (Nat.add_assoc _ _ _))⟩)))
                      repeat (go_quiet (first | (go_at_call 30; (with_reducible refine (impl_CanTurn.calls kj175 t574 t575 (wrap64 (t576 - 1)) true true _ A179.out).mono ?_); rintro e w' ⟨rfl, ⟨nd, rfl⟩⟩; (try first | exact ⟨rfl, _, World.drewN_drewN _ _ _⟩ | exact ⟨rfl, _, Eq.trans (World.drewN_drewN _ _ _) (congrArg (World.drewN _) (Nat.add_assoc _ _ _))⟩))); try go_wp2_with (first | (go_at_call 30; (with_reducible refine (impl_CanTurn.calls kj175 t574 t575 (wrap64 (t576 - 1)) true true _ A179.out).mono ?_); rintro e w' ⟨rfl, ⟨nd, rfl⟩⟩; (try first | exact ⟨rfl, _, World.drewN_drewN _ _ _⟩ | exact ⟨rfl, _, Eq.trans (World.drewN_drewN _ _ _) (congrArg (World.drewN _) (Nat.add_assoc _ _ _))⟩))))
                      go_ret
                      exact ⟨by first | rfl | (simp [errW_none, errW_some] <;> rfl) | (simp [*, errW_none, errW_some] <;> rfl), hbS HB.out⟩
                     ·rw [if_neg c185] at H
                      have c185b0 : decide (t576 ≤ t575) = false := decide_eq_false c185; clear c185
                      obtain rfl := Option.some.inj H
                      go_wp2_with (first | (go_at_call 30; (with_reducible refine (impl_CanTurn.calls kj175 t574 t575 (wrap64 (t576 - 1)) true true _ A179.out).mono ?_); rintro e w' ⟨rfl, ⟨nd, rfl⟩⟩; (try first | exact ⟨rfl, _, World.drewN_drewN _ _ _⟩ | exact ⟨rfl, _, Eq.trans (World.drewN_drewN _ _ _) (congrArg (World.drewN _) (Nat.add_assoc _ _ _))⟩)))
                      repeat (go_quiet (first | (go_at_call 30; (with_reducible refine (impl_CanTurn.calls kj175 t574 t575 (wrap64 (t576 - 1)) true true _ A179.out).mono ?_); rintro e w' ⟨rfl, ⟨nd, rfl⟩⟩; (try first | exact ⟨rfl, _, World.drewN_drewN _ _ _⟩ | exact ⟨rfl, _, Eq.trans (World.drewN_drewN _ _ _) (congrArg (World.drewN _) (Nat.add_assoc _ _ _))⟩))); try go_wp2_with (first | (go_at_call 30; (with_reducible refine (impl_CanTurn.calls kj175 t574 t575 (wrap64 (t576 - 1)) true true _ A179.out).mono ?_); rintro e w' ⟨rfl, ⟨nd, rfl⟩⟩; (try first | exact ⟨rfl, _, World.drewN_drewN _ _ _⟩ | exact ⟨rfl, _, Eq.trans (World.drewN_drewN _ _ _) (congrArg (World.drewN _) (Nat.add_assoc _ _ _))⟩))))
                      go_ret
                      exact ⟨by first | rfl | (simp [errW_none, errW_some] <;> rfl) | (simp [*, errW_none, errW_some] <;> rfl), hbS HB.out⟩
                   ·replace c178 := Bool.eq_false_iff.mpr c178
                    subst c178
                    rw [if_neg (show ¬ (false = true) by decide)] at H
                    (try dsimp only at H)
                    by_cases c187 : t576 ≤ t574
                    ·rw [if_pos c187] at H
                     have c187b0 : decide (t576 ≤ t574) = true := decide_eq_true c187; clear c187
                     by_cases c188 : t577 = true
                     rotate_left
                     ·replace c188 := Bool.eq_false_iff.mpr c188
                      subst c188
                      rw [if_neg (show ¬ (false = true) by decide)] at H
                      (try dsimp only at H)
                      exact absurd H (by simp)
                     subst c188
                     rw [if_pos rfl] at H
                     (try dsimp only at H)
                     by_cases c189 : t576 ≤ t575
                     ·rw [if_pos c189] at H
                      have c189b0 : decide (t576 ≤ t575) = true := decide_eq_true c189; clear c189
                      obtain rfl := Option.some.inj H
                      go_wp2
                      repeat (go_quiet (fail); try go_wp2)
                      go_ret
                      exact ⟨by first | rfl | (simp [errW_none, errW_some] <;> rfl) | (simp [*, errW_none, errW_some] <;> rfl), hbS HB.out⟩
                     ·rw [if_neg c189] at H
                      have c189b0 : decide (t576 ≤ t575) = false := decide_eq_false c189; clear c189
                      obtain rfl := Option.some.inj H
                      go_wp2
                      repeat (go_quiet (fail); try go_wp2)
                      go_ret
                      exact ⟨by first | rfl | (simp [errW_none, errW_some] <;> rfl) | (simp [*, errW_none, errW_some] <;> rfl), hbS HB.out⟩
                    ·rw [if_neg c187] at H
                     have c187b0 : decide (t576 ≤ t574) = false := decide_eq_false c187; clear c187
                     by_cases c190 : t576 ≤ t575
                     ·rw [if_pos c190] at H
                      have c190b0 : decide (t576 ≤ t575) = true := decide_eq_true c190; clear c190
                      by_cases c191 : t577 = true
                      rotate_left
                      ·replace c191 := Bool.eq_false_iff.mpr c191
                       subst c191
                       rw [if_neg (show ¬ (false = true) by decide)] at H
                       (try dsimp only at H)
                       exact absurd H (by simp)
                      subst c191
                      rw [if_pos rfl] at H
                      (try dsimp only at H)
                      obtain rfl := Option.some.inj H
                      go_wp2
                      repeat (go_quiet (fail); try go_wp2)
                      go_ret
                      exact ⟨by first | rfl | (simp [errW_none, errW_some] <;> rfl) | (simp [*, errW_none, errW_some] <;> rfl), hbS HB.out⟩
                     ·rw [if_neg c190] at H
                      have c190b0 : decide (t576 ≤ t575) = false := decide_eq_false c190; clear c190
                      obtain rfl := Option.some.inj H
                      go_wp2
                      repeat (go_quiet (fail); try go_wp2)
                      go_ret
                      exact ⟨by first | rfl | (simp [errW_none, errW_some] <;> rfl) | (simp [*, errW_none, errW_some] <;> rfl), hbS HB.out⟩
                ·replace c175 := Bool.eq_false_iff.mpr c175
                 subst c175
                 rw [if_neg (show ¬ (false = true) by decide)] at H
                 (try dsimp only at H)
                 obtain rfl := Option.some.inj H
                 go_wp2
                 repeat (go_quiet (fail); try go_wp2)
                 go_ret
                 exact ⟨by first | rfl | (simp [errW_none, errW_some] <;> rfl) | (simp [*, errW_none, errW_some] <;> rfl), hbS HB.out⟩
end Go.Proofs.Ytkokbcnecnpgcaa.X
end
