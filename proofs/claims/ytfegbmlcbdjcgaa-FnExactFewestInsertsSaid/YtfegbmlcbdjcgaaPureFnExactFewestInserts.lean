/- The program's FewestInserts and the reference's come to the same, at every input. -/
import Derived.Test.YtfegbmlcbdjcgaaQFnExactFewestInserts
import Derived.Test.YtfegbmlcbdjcgaaX8
import Derived.Test.YtfegbmlcbdjcgaaLBase
import Derived.Test.YtfegbmlcbdjcgaaLIntEq
import Derived.Test.YtfegbmlcbdjcgaaLOrd
import Derived.Test.YtfegbmlcbdjcgaaLRise
import Derived.Test.YtfegbmlcbdjcgaaLToInts
namespace Go.Proofs.Ytfegbmlcbdjcgaa.Pure
open Go.RowKit Go.Proofs.Ytfegbmlcbdjcgaa.X Go.Proofs.YtfegbmlcbdjcgaaW.PrintWords Go.Proofs.YtfegbmlcbdjcgaaW.PrintLast
def insC (l : List Int) : Int × Bool := if ordB l = true then (((l.length - (riseC l).1.length : Nat) : Int), true) else (0, false)
theorem ins_both (l : List Int) (hl : l.length ≤ 1048576) : Ev (fun k => spec_FewestInserts.f k l) (insC l) ∧ Ev (fun k => impl_FewestInserts.f k l) (insC l) := by
  have hR := riseC_len l
  refine ⟨?_, ?_⟩
  · unfold spec_FewestInserts.f insC
    refine Ev.bind (ptGood_ev l) ?_
    by_cases ho : ordB l = true
    · have hlen := ordB_len l ho
      rw [if_pos ho]
      refine evPos ho (Ev.bind (rise_spec l hlen.2 (ordB_nodupR l ho) (ordB_pos l ho)) ?_)
      have he : (riseC l).1 = RL l l.length 0 [] 0 [] := by unfold riseC; rw [if_pos ho]
      have hle := RL_len l l.length l.length 0 [] 0 [] (by simp) (by simp)
      rw [he]
      refine evSome ?_
      rw [show wrap64 ((l.length : Int) - ((RL l l.length 0 [] 0 []).length : Int)) = ((l.length - (RL l l.length 0 [] 0 []).length : Nat) : Int) from (w64 (by omega) (by omega)).trans (by omega)]
    · rw [if_neg ho]
      exact evNeg ho (evSome rfl)
  · unfold impl_FewestInserts.f
    refine Ev.bind (Rising_impl l hl) ?_
    have hbit : ∀ b : Bool, impl_bit.f b = some (if b = true then 1 else 0) := by intro b; unfold impl_bit.f; cases b <;> rfl
    unfold insC
    by_cases ho : ordB l = true
    · have hlen := ordB_len l ho
      have he : riseC l = (RL l l.length 0 [] 0 [], true) := by unfold riseC; rw [if_pos ho]
      have hle := RL_len l l.length l.length 0 [] 0 [] (by simp) (by simp)
      rw [if_pos ho, he]
      refine evBind0 (hbit true) (evSome ?_)
      show (_, _) = (_, _)
      rw [if_pos rfl, Int.mul_one, show wrap64 (l.length : Int) = (l.length : Int) from w64 (by omega) (by omega), show wrap64 ((l.length : Int) - ((RL l l.length 0 [] 0 []).length : Int)) = ((l.length - (RL l l.length 0 [] 0 []).length : Nat) : Int) from (w64 (by omega) (by omega)).trans (by omega)]
    · have he : riseC l = ([], false) := by unfold riseC; rw [if_neg ho]
      rw [if_neg ho, he]
      refine evBind0 (hbit false) (evSome ?_)
      show (_, _) = (_, _)
      rw [if_neg (by simp), Int.mul_zero]
      simp [w64]
theorem FnExactFewestInserts : laws_FnExactFewestInserts.PureQ := by
  intro l _ _
  refine Ev.rounds ?_
  unfold laws_FnExactFewestInserts.f
  by_cases h : l.length > 1048576
  · exact evPos (by omega) (evSome rfl)
  refine evNeg (by omega) ?_
  have hP := toIntS_ev l (by omega)
  obtain ⟨hS, hI⟩ := ins_both l (by omega)
  have hEl := eqIntS_self l (by omega)
  refine Ev.bind hP (Ev.bind hS (Ev.bind hP (Ev.bind hI (evPos rfl ?_))))
  refine Ev.step (fun k => by rw [laws_FnExactFewestInserts.j0]) ?_
  exact evNeg (by simp) (Ev.bind hP (Ev.bind hEl (evPos rfl (evSome rfl))))
end Go.Proofs.Ytfegbmlcbdjcgaa.Pure
