/- The program's FirstSwaps and the reference's come to the same, at every input; what is handed back is new. -/
import Derived.Test.YtfegbmlcbdjcgaaQFnExactFirstSwaps
import Derived.Test.YtfegbmlcbdjcgaaX5
import Derived.Test.YtfegbmlcbdjcgaaEFirstSwaps
import Derived.Test.YtfegbmlcbdjcgaaEMarkIntSS
import Derived.Test.YtfegbmlcbdjcgaaX10
import Derived.Test.YtfegbmlcbdjcgaaEFnExactFirstSwaps
import Derived.Test.YtfegbmlcbdjcgaaLBase
import Derived.Test.YtfegbmlcbdjcgaaLOrd
import Derived.Test.YtfegbmlcbdjcgaaLIntEq
import Derived.Test.YtfegbmlcbdjcgaaLInts
import Derived.Test.YtfegbmlcbdjcgaaLIntSS
import Derived.Test.YtfegbmlcbdjcgaaLCyc
import Derived.Test.YtfegbmlcbdjcgaaLSwaps
import Derived.Test.YtfegbmlcbdjcgaaLToInts
namespace Go.Proofs.Ytfegbmlcbdjcgaa.Pure
open Go.RowKit Go.Proofs.Ytfegbmlcbdjcgaa.X Go.Proofs.YtfegbmlcbdjcgaaW.PrintWords Go.Proofs.YtfegbmlcbdjcgaaW.PrintLast
def swsC (l : List Int) : List (List Int) × Bool := if ordB l = true then (swL (l.length - (cycO l).length) l [], true) else ([], false)
theorem cyc_len (l : List Int) : (cycO l).length ≤ l.length := by
  obtain ⟨_, h4⟩ := cyA_tot l l.length l.length 0 (List.replicate l.length false) []
  have h5 : (cycO l).length ≤ 0 + l.length := h4
  omega
theorem sws_both (l : List Int) (hl : l.length ≤ 1048576) : Ev (fun k => spec_FirstSwaps.f k l) (swsC l) ∧ Ev (fun k => impl_FirstSwaps.f k l) (swsC l) := by
  unfold spec_FirstSwaps.f impl_FirstSwaps.f swsC
  have hG := ptGood_ev l
  by_cases ho : ordB l = true
  · have hlen := ordB_len l ho
    have hP := ordB_PO l ho
    have hc := cyc_len l
    rw [if_pos ho]
    refine ⟨Ev.bind hG (evPos ho (Ev.bind (cycles_spec l (ordB_good l ho) hlen.2) ?_)), evBind0 (IsOrder_eq l (by omega)) (evPos ho (loop_impl _ l [] hP hlen.2 (by omega) (by simp; omega)))⟩
    rw [show wrap64 ((l.length : Int) - ((cycO l).length : Int)) = ((l.length - (cycO l).length : Nat) : Int) from (w64 (by omega) (by omega)).trans (by omega)]
    exact loop_spec _ l [] hP hlen.2 (by omega) (by simp; omega)
  · rw [if_neg ho]
    exact ⟨Ev.bind hG (evNeg ho (evSome rfl)), evBind0 (IsOrder_eq l (by omega)) (evNeg ho (evSome rfl))⟩
theorem swsC_tot (l : List Int) : totL (swsC l).1 ≤ 72 ∧ (swsC l).1.length ≤ 8 := by
  unfold swsC
  split
  · rename_i h
    have hlen := ordB_len l h
    obtain ⟨h1, h2⟩ := swL_tot (l.length - (cycO l).length) l []
    have h3 : totL ([] : List (List Int)) = 0 := rfl
    have h4 : ([] : List (List Int)).length = 0 := rfl
    show totL (swL _ l []) ≤ 72 ∧ (swL _ l []).length ≤ 8
    exact ⟨by omega, by omega⟩
  · exact ⟨Nat.zero_le _, Nat.zero_le _⟩
theorem FnExactFirstSwaps : laws_FnExactFirstSwaps.Pure := by
  intro l _ _
  refine Ev.rounds ?_
  unfold laws_FnExactFirstSwaps.f
  by_cases h : l.length > 1048576
  · exact evPos h (evSome rfl)
  refine evNeg h ?_
  have hP := toIntS_ev l (by omega)
  obtain ⟨hS, hI⟩ := sws_both l (by omega)
  obtain ⟨ht, hn⟩ := swsC_tot l
  obtain ⟨K1, hE⟩ := eqSS_self (swsC l).1 (by omega) (by omega)
  obtain ⟨K2, hEl⟩ := eqIntS_self l (by omega)
  obtain ⟨K3, hH⟩ := heldSS_ev (swsC l).1 (by omega) (by omega)
  have hM := markSS_ev (swsC l).1 (by omega) (by omega)
  have hMl := markIntS_ev l (by omega)
  refine Ev.bind hP (Ev.bind hS (Ev.bind hI ?_))
  obtain ⟨K4, h4⟩ := Ev.bind (f := fun k (m : Int × List Int) => (if 0 ≤ m.1 then ((laws_markIntSS.f k (swsC l).1 1).bind fun M => (if laws_heldIntSS.f k M.2 1 = some M.1 ∧ 0 ≤ M.1 then some true else none)) else none)) (r := true) hMl (evPos (by show (0 : Int) ≤ 1 + _; omega) (Ev.bind (f := fun k (M : Int × List (List Int)) => (if laws_heldIntSS.f k M.2 1 = some M.1 ∧ 0 ≤ M.1 then some true else none)) hM ⟨K3, fun k hk => if_pos ⟨hH k hk, by show (0 : Int) ≤ 1 + _; omega⟩⟩))
  refine ⟨max K1 (max K2 K4), fun k hk => ?_⟩
  show (if _ then _ else _) = _
  rw [if_pos ⟨rfl, hE k (by omega), hEl k (by omega)⟩]
  exact h4 k (by omega)
end Go.Proofs.Ytfegbmlcbdjcgaa.Pure
