/- Lists of numbers: compared, marked and looked at as the laws do. -/
--! needs LBase LIntEq laws_markIntS laws_heldIntS
import Derived.Test.YtfegbmlcbdjcgaaX0
import Derived.Test.YtfegbmlcbdjcgaaX9
import Derived.Test.YtfegbmlcbdjcgaaX10
import Derived.Test.YtfegbmlcbdjcgaaLBase
namespace Go.Proofs.Ytfegbmlcbdjcgaa.X
open Go.Proofs.Ytfegbmlcbdjcgaa.Sq Go.RowKit Go.Proofs.YtfegbmlcbdjcgaaW.PrintWords Go.Proofs.YtfegbmlcbdjcgaaW.PrintLast Go.Proofs.YtfegbmlcbdjcgaaW.PrintMore
attribute [local go_sem] max2_int min2_int max_two min_two max_three min_three max_four min_four   -- for this text's walks alone
set_option linter.unusedVariables false
set_option linter.unusedSimpArgs false

def mkI (m : Int) (n : Nat) : List Int := (List.range n).map fun (i : Nat) => m + (i : Int)
theorem mkI_len (m : Int) (n : Nat) : (mkI m n).length = n := by simp [mkI]
theorem markIntS_l0 (l : List Int) (m : Int) (h0 : 0 ≤ m) (hm : m + l.length ≤ 4611686018427387904) (d : Nat) : ∀ i : Nat, i + d = l.length →
    Ev (fun k => laws_markIntS.l0 k ((mkI m l.length).take i ++ l.drop i) (m + (i : Int)) (i : Int)) (m + l.length, mkI m l.length) := by
  induction d with
  | zero =>
    intro i hi
    refine Ev.step (fun k => by rw [laws_markIntS.l0]) ?_
    have hl := mid_len (mkI m l.length) l i (by rw [mkI_len]) (by rw [mkI_len]; omega)
    rw [mkI_len] at hl
    refine evNeg (by rw [hl]; omega) (evSome ?_)
    rw [List.take_of_length_le (by rw [mkI_len]; omega), List.drop_of_length_le (by omega), List.append_nil, show i = l.length by omega]
  | succ d ih =>
    intro i hi
    refine Ev.step (fun k => by rw [laws_markIntS.l0]) ?_
    have hl := mid_len (mkI m l.length) l i (by rw [mkI_len]) (by rw [mkI_len]; omega)
    rw [mkI_len] at hl
    refine evPos (by rw [hl]; omega) (evPos (by omega) ?_)
    rw [w64 (x := m + (i : Int) + 1) (by omega) (by omega), w64 (x := (i : Int) + 1) (by omega) (by omega), Int.toNat_natCast]
    have h2 := ih (i + 1) (by omega)
    rw [← set_mid (mkI m l.length) l i (by rw [mkI_len]; omega) (by rw [mkI_len])] at h2
    have h3 : (mkI m l.length)[i]'(by rw [mkI_len]; omega) = m + (i : Int) := by simp [mkI]
    rw [h3, show m + ((i + 1 : Nat) : Int) = m + (i : Int) + 1 by omega] at h2
    exact h2
theorem markIntS_ev (l : List Int) (hm : l.length ≤ 1048577) : Ev (fun k => laws_markIntS.f k l 1) (1 + (l.length : Int), mkI 1 l.length) := by
  unfold laws_markIntS.f
  have h := markIntS_l0 l 1 (by omega) (by omega) l.length 0 (Nat.zero_add _)
  simpa using h
theorem heldIntS_l0 (m : Int) (n : Nat) (h0 : 0 ≤ m) (hm : m + n ≤ 4611686018427387904) (d : Nat) : ∀ i : Nat, i + d = n → Ev (fun k => laws_heldIntS.l0 k (mkI m n) (m + (i : Int)) (i : Int)) (m + n) := by
  induction d with
  | zero =>
    intro i hi
    refine Ev.step (fun k => by rw [laws_heldIntS.l0]) ?_
    refine evNeg (by rw [mkI_len]; omega) (evSome ?_)
    rw [show i = n by omega]
  | succ d ih =>
    intro i hi
    refine Ev.step (fun k => by rw [laws_heldIntS.l0]) ?_
    have h3 : rd (mkI m n) (i : Int) = m + (i : Int) := by
      unfold rd mkI
      rw [Int.toNat_natCast]
      exact getD_range_map _ n i 0 (by omega)
    rw [w64 (x := m + (i : Int) + 1) (by omega) (by omega), w64 (x := (i : Int) + 1) (by omega) (by omega), h3]
    refine evPos (by rw [mkI_len]; omega) (evPos (by omega) (evPos rfl ?_))
    have h2 := ih (i + 1) (by omega)
    rw [show m + ((i + 1 : Nat) : Int) = m + (i : Int) + 1 by omega] at h2
    exact h2
theorem heldIntS_ev (n : Nat) (hm : n ≤ 1048577) : Ev (fun k => laws_heldIntS.f k (mkI 1 n) 1) (1 + (n : Int)) := by
  unfold laws_heldIntS.f
  have h := heldIntS_l0 1 n (by omega) (by omega) n 0 (Nat.zero_add _)
  simpa using h
end Go.Proofs.Ytfegbmlcbdjcgaa.X
