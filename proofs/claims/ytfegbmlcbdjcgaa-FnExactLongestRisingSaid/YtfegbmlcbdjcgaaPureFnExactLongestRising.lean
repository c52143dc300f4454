/- The program's LongestRising and the reference's come to the same, at every input; what is handed back is new. -/
import Derived.Test.YtfegbmlcbdjcgaaQFnExactLongestRising
import Derived.Test.YtfegbmlcbdjcgaaX4
import Derived.Test.YtfegbmlcbdjcgaaELongestRising
import Derived.Test.YtfegbmlcbdjcgaaX7
import Derived.Test.YtfegbmlcbdjcgaaLBase
import Derived.Test.YtfegbmlcbdjcgaaLIntEq
import Derived.Test.YtfegbmlcbdjcgaaLInts
import Derived.Test.YtfegbmlcbdjcgaaLOrd
import Derived.Test.YtfegbmlcbdjcgaaLRise
import Derived.Test.YtfegbmlcbdjcgaaLToInts
namespace Go.Proofs.Ytfegbmlcbdjcgaa.Pure
open Go.RowKit Go.Proofs.Ytfegbmlcbdjcgaa.X Go.Proofs.YtfegbmlcbdjcgaaW.PrintWords Go.Proofs.YtfegbmlcbdjcgaaW.PrintLast
theorem rise_both (l : List Int) (hl : l.length ≤ 1048576) : Ev (fun k => spec_LongestRising.f k l) (riseC l) ∧ Ev (fun k => impl_LongestRising.f k l) (riseC l) := by
  refine ⟨?_, Rising_impl l hl⟩
  unfold spec_LongestRising.f riseC
  have hG := ptGood_ev l
  refine Ev.bind hG ?_
  by_cases ho : ordB l = true
  · have hlen := ordB_len l ho
    rw [if_pos ho]
    exact evPos ho (Ev.bind (rise_spec l hlen.2 (ordB_nodupR l ho) (ordB_pos l ho)) (evSome rfl))
  · rw [if_neg ho]
    exact evNeg ho (evSome rfl)
theorem FnExactLongestRising : laws_FnExactLongestRising.PureQ := by
  intro l _ _
  refine Ev.rounds ?_
  unfold laws_FnExactLongestRising.f
  by_cases h : l.length > 1048576
  · exact evPos (by omega) (evSome rfl)
  refine evNeg (by omega) ?_
  have hP := toIntS_ev l (by omega)
  obtain ⟨hS, hI⟩ := rise_both l (by omega)
  have hlen := riseC_len l
  have hE := eqIntS_self (riseC l).1 (by omega)
  have hM := markIntS_ev (riseC l).1 (by omega)
  have hH := heldIntS_ev (riseC l).1.length (by omega)
  have hEl := eqIntS_self l (by omega)
  have hMl := markIntS_ev l (by omega)
  refine Ev.bind hP (Ev.bind hS (Ev.bind hP (Ev.bind hI (Ev.bind hE (evPos rfl ?_)))))
  refine Ev.step (fun k => by rw [laws_FnExactLongestRising.j0]) ?_
  refine evNeg (by simp) (Ev.bind hP (Ev.bind hEl (evPos rfl ?_)))
  refine Ev.bind hMl (evNeg (by simp; omega) ?_)
  refine Ev.bind hE (evPos rfl ?_)
  refine Ev.step (fun k => by rw [laws_FnExactLongestRising.j1]) ?_
  refine evNeg (by simp) (Ev.bind hM (Ev.bind hH (evNeg (by omega) (evPos rfl ?_))))
  refine Ev.bind hP (Ev.bind hI (Ev.bind hE (evPos rfl ?_)))
  refine Ev.step (fun k => by rw [laws_FnExactLongestRising.j2]) ?_
  exact evNeg (by simp) (Ev.bind hH (evNeg (by omega) (evPos rfl (evSome rfl))))
end Go.Proofs.Ytfegbmlcbdjcgaa.Pure
