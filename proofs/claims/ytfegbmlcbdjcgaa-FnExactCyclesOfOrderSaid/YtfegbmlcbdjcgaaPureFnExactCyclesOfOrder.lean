/- The program's CyclesOfOrder and the reference's come to the same, at every input; what is handed back is new. -/
import Derived.Test.YtfegbmlcbdjcgaaQFnExactCyclesOfOrder
import Derived.Test.YtfegbmlcbdjcgaaX3
import Derived.Test.YtfegbmlcbdjcgaaX5
import Derived.Test.YtfegbmlcbdjcgaaEMarkIntSS
import Derived.Test.YtfegbmlcbdjcgaaX7
import Derived.Test.YtfegbmlcbdjcgaaEFnExactCyclesOfOrder
import Derived.Test.YtfegbmlcbdjcgaaLBase
import Derived.Test.YtfegbmlcbdjcgaaLOrd
import Derived.Test.YtfegbmlcbdjcgaaLIntEq
import Derived.Test.YtfegbmlcbdjcgaaLInts
import Derived.Test.YtfegbmlcbdjcgaaLIntSS
import Derived.Test.YtfegbmlcbdjcgaaLCyc
import Derived.Test.YtfegbmlcbdjcgaaLToInts
namespace Go.Proofs.Ytfegbmlcbdjcgaa.Pure
open Go.RowKit Go.Proofs.Ytfegbmlcbdjcgaa.X Go.Proofs.YtfegbmlcbdjcgaaW.PrintWords Go.Proofs.YtfegbmlcbdjcgaaW.PrintLast
def cycC (l : List Int) : List (List Int) × Bool := if ordB l = true then (cycO l, true) else ([], false)
theorem cyc_both (l : List Int) (hl : l.length ≤ 1048576) : Ev (fun k => spec_CyclesOfOrder.f k l) (cycC l) ∧ Ev (fun k => impl_CyclesOfOrder.f k l) (cycC l) := by
  unfold spec_CyclesOfOrder.f impl_CyclesOfOrder.f cycC
  have hG := ptGood_ev l
  by_cases ho : ordB l = true
  · have hlen := ordB_len l ho
    rw [if_pos ho]
    exact ⟨Ev.bind hG (evPos ho (Ev.bind (cycles_spec l (ordB_good l ho) hlen.2) (evSome rfl))), evBind0 (IsOrder_eq l (by omega)) (evPos ho (Ev.bind (cycles_impl l (ordB_good l ho) hlen.2) (evSome rfl)))⟩
  · rw [if_neg ho]
    exact ⟨Ev.bind hG (evNeg ho (evSome rfl)), evBind0 (IsOrder_eq l (by omega)) (evNeg ho (evSome rfl))⟩
theorem cycC_tot (l : List Int) : totL (cycC l).1 ≤ 72 ∧ (cycC l).1.length ≤ 8 := by
  unfold cycC
  split
  · rename_i h
    exact cycO_tot l (ordB_len l h).2
  · exact ⟨Nat.zero_le _, Nat.zero_le _⟩
theorem FnExactCyclesOfOrder : laws_FnExactCyclesOfOrder.Pure := by
  intro l _ _
  refine Ev.rounds ?_
  unfold laws_FnExactCyclesOfOrder.f
  by_cases h : l.length > 1048576
  · exact evPos h (evSome rfl)
  refine evNeg h ?_
  have hP := toIntS_ev l (by omega)
  obtain ⟨hS, hI⟩ := cyc_both l (by omega)
  obtain ⟨ht, hn⟩ := cycC_tot l
  obtain ⟨K1, hE⟩ := eqSS_self (cycC l).1 (by omega) (by omega)
  obtain ⟨K2, hEl⟩ := eqIntS_self l (by omega)
  obtain ⟨K3, hH⟩ := heldSS_ev (cycC l).1 (by omega) (by omega)
  have hM := markSS_ev (cycC l).1 (by omega) (by omega)
  have hMl := markIntS_ev l (by omega)
  refine Ev.bind hP (Ev.bind hS (Ev.bind hI ?_))
  obtain ⟨K4, h4⟩ := Ev.bind (f := fun k (m : Int × List Int) => (if 0 ≤ m.1 then ((laws_markIntSS.f k (cycC l).1 1).bind fun M => (if laws_heldIntSS.f k M.2 1 = some M.1 ∧ 0 ≤ M.1 then some true else none)) else none)) (r := true) hMl (evPos (by show (0 : Int) ≤ 1 + _; omega) (Ev.bind (f := fun k (M : Int × List (List Int)) => (if laws_heldIntSS.f k M.2 1 = some M.1 ∧ 0 ≤ M.1 then some true else none)) hM ⟨K3, fun k hk => if_pos ⟨hH k hk, by show (0 : Int) ≤ 1 + _; omega⟩⟩))
  refine ⟨max K1 (max K2 K4), fun k hk => ?_⟩
  show (if _ then _ else _) = _
  rw [if_pos ⟨rfl, hE k (by omega), hEl k (by omega)⟩]
  exact h4 k (by omega)
end Go.Proofs.Ytfegbmlcbdjcgaa.Pure
