/- A list of numbers copied, as the laws do. -/
--! needs LBase laws_toIntS
import Derived.Test.YtfegbmlcbdjcgaaX0
import Derived.Test.YtfegbmlcbdjcgaaX1
import Derived.Test.YtfegbmlcbdjcgaaLBase
namespace Go.Proofs.Ytfegbmlcbdjcgaa.X
open Go.Proofs.Ytfegbmlcbdjcgaa.Sq Go.RowKit Go.Proofs.YtfegbmlcbdjcgaaW.PrintWords Go.Proofs.YtfegbmlcbdjcgaaW.PrintLast Go.Proofs.YtfegbmlcbdjcgaaW.PrintMore
attribute [local go_sem] max2_int min2_int max_two min_two max_three min_three max_four min_four   -- for this text's walks alone
set_option linter.unusedVariables false
set_option linter.unusedSimpArgs false

theorem toIntS_l0 (l : List Int) (hl : l.length ≤ 1048576) (z : List Int) (hz : z.length = l.length) (d : Nat) : ∀ i : Nat, i + d = l.length → Ev (fun k => laws_toIntS.l0 k l (l.take i ++ z.drop i) (i : Int)) l := by
  induction d with
  | zero =>
    intro i hi
    refine Ev.step (fun k => by rw [laws_toIntS.l0]) ?_
    refine evNeg (by omega) (evSome ?_)
    rw [List.take_of_length_le (by omega), List.drop_of_length_le (by omega), List.append_nil]
  | succ d ih =>
    intro i hi
    refine Ev.step (fun k => by rw [laws_toIntS.l0]) ?_
    have hm := mid_len l z i hz (by omega)
    have h2 := ih (i + 1) (by omega)
    rw [← set_mid l z i (by omega) hz] at h2
    have hr : rd l (i : Int) = l[i]'(by omega) := by unfold rd; rw [Int.toNat_natCast, getElem_getD l i 0 (by omega)]
    rw [show wrap64 ((i : Int) + 1) = ((i + 1 : Nat) : Int) from (w64 (by omega) (by omega)).trans (by omega), hr, Int.toNat_natCast]
    exact evPos (by omega) (evPos (by omega) (evPos (by rw [hm]; omega) h2))
theorem toIntS_ev (l : List Int) (hl : l.length ≤ 1048576) : Ev (fun k => laws_toIntS.f k l) l := by
  unfold laws_toIntS.f
  rw [Int.toNat_natCast]
  refine evPos (by omega) (evPos (by omega) ?_)
  have h := toIntS_l0 l hl (List.replicate l.length 0) (by simp) l.length 0 (Nat.zero_add _)
  simpa using h
end Go.Proofs.Ytfegbmlcbdjcgaa.X
