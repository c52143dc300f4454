/- The program's FirstNeighbourSwaps and the reference's come to the same, at every input; what is handed back is new. -/
import Derived.Test.YtfegbmlcbdjcgaaQFnExactFirstNeighbourSwaps
import Derived.Test.YtfegbmlcbdjcgaaX4
import Derived.Test.YtfegbmlcbdjcgaaX5
import Derived.Test.YtfegbmlcbdjcgaaX6
import Derived.Test.YtfegbmlcbdjcgaaX8
import Derived.Test.YtfegbmlcbdjcgaaLBase
import Derived.Test.YtfegbmlcbdjcgaaLInts
import Derived.Test.YtfegbmlcbdjcgaaLOrd
import Derived.Test.YtfegbmlcbdjcgaaLNeigh
import Derived.Test.YtfegbmlcbdjcgaaLToInts
namespace Go.Proofs.Ytfegbmlcbdjcgaa.Pure
open Go.RowKit Go.Proofs.Ytfegbmlcbdjcgaa.X Go.Proofs.YtfegbmlcbdjcgaaW.PrintWords Go.Proofs.YtfegbmlcbdjcgaaW.PrintLast
theorem neigh_both (l : List Int) (hl : l.length ≤ 1048576) : ∃ s : List Int × Bool, Ev (fun k => spec_FirstNeighbourSwaps.f k l) s ∧ Ev (fun k => impl_FirstNeighbourSwaps.f k l) s ∧ s.1.length ≤ 1000 := by
  unfold spec_FirstNeighbourSwaps.f impl_FirstNeighbourSwaps.f
  have hG := ptGood_ev l
  cases ho : ordB l with
  | false =>
    rw [ho] at hG
    refine ⟨([], false), Ev.bind hG (evNeg (by simp) (evSome rfl)), ?_, by simp⟩
    refine evBind0 (IsOrder_eq l (by omega)) ?_
    rw [ho]
    exact evNeg (by simp) (evSome rfl)
  | true =>
    rw [ho] at hG
    have hlen := ordB_len l ho
    have hsq := invs_le l
    have h64 : l.length * l.length ≤ 8 * 8 := Nat.mul_le_mul hlen.2 hlen.2
    obtain ⟨o, hN, hn⟩ := nb_some (invs l) l rfl
    refine ⟨(o, true), Ev.bind hG (evPos rfl ?_), evBind0 (a := true) (by rw [← ho]; exact IsOrder_eq l (by omega)) (evPos rfl (evBind0 (a := l) ?_ ?_)), by show o.length ≤ 1000; omega⟩
    · exact evEq (nb_spec hN [] hlen.2 (by simp; omega)) (by simp)
    · unfold slices_Clone_int.f
      simp only [Option.bind_some, List.nil_append, List.length_nil, Nat.zero_add]
      rw [if_pos (by omega)]
    · exact evEq (nb_impl hN [] hlen.2 (ordB_nodup l ho) (by simp; omega)) (by simp)
theorem FnExactFirstNeighbourSwaps : laws_FnExactFirstNeighbourSwaps.PureQ := by
  intro l _ _
  refine Ev.rounds ?_
  unfold laws_FnExactFirstNeighbourSwaps.f
  by_cases h : l.length > 1048576
  · exact evPos (by omega) (evSome rfl)
  refine evNeg (by omega) ?_
  have hP := toIntS_ev l (by omega)
  obtain ⟨s, hS, hI, hlen⟩ := neigh_both l (by omega)
  have hE := eqIntS_self s.1 (by omega)
  have hM := markIntS_ev s.1 (by omega)
  have hH := heldIntS_ev s.1.length (by omega)
  have hEl := eqIntS_self l (by omega)
  have hMl := markIntS_ev l (by omega)
  refine Ev.bind hP (Ev.bind hS (Ev.bind hP (Ev.bind hI (Ev.bind hE (evPos rfl ?_)))))
  refine Ev.step (fun k => by rw [laws_FnExactFirstNeighbourSwaps.j0]) ?_
  refine evNeg (by simp) (Ev.bind hP (Ev.bind hEl (evPos rfl ?_)))
  refine Ev.bind hMl (evNeg (by simp; omega) ?_)
  refine Ev.bind hE (evPos rfl ?_)
  refine Ev.step (fun k => by rw [laws_FnExactFirstNeighbourSwaps.j1]) ?_
  refine evNeg (by simp) (Ev.bind hM (Ev.bind hH (evNeg (by omega) (evPos rfl ?_))))
  refine Ev.bind hP (Ev.bind hI (Ev.bind hE (evPos rfl ?_)))
  refine Ev.step (fun k => by rw [laws_FnExactFirstNeighbourSwaps.j2]) ?_
  exact evNeg (by simp) (Ev.bind hH (evNeg (by omega) (evPos rfl (evSome rfl))))
end Go.Proofs.Ytfegbmlcbdjcgaa.Pure
