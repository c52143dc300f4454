import Derived.Test.YtonifgfgeollaaaP4
import Derived.Test.YtonifgfgeollaaaP14
import Derived.Test.YtonifgfgeollaaaP16
import Derived.Test.YtonifgfgeollaaaP17
section
/- The program's IsSolved and the reference's come to the same, at every input. -/
namespace Go.Proofs.Ytonifgfgeollaaa.Pure
open Go.RowKit Go.Proofs.Ytonifgfgeollaaa.X Go.Proofs.YtonifgfgeollaaaW.PrintWords Go.Proofs.YtonifgfgeollaaaW.PrintLast
theorem Solved_spec (q : Int) (l : List S25) : Ev (fun k => spec_IsSolved.f k q l) ((((solC q l).length : Int) == 1), goodB q l) := by
  unfold spec_IsSolved.f spec_pzSolved.f
  refine Ev.bind (pzGood_ev q l) ?_
  cases hg : goodB q l with
  | false => exact evNeg (by simp) (evSome (by rw [solC_not q l hg]; rfl))
  | true => exact evPos rfl (Ev.bind (Ev.bind (all_spec q l hg) (evSome rfl)) (evSome rfl))
theorem Solved_impl (q : Int) (l : List S25) : Ev (fun k => impl_IsSolved.f k q l) ((((solC q l).length : Int) == 1), goodB q l) := by
  unfold impl_IsSolved.f impl_CountSolutions.f
  exact Ev.bind (Ev.bind (Solutions_impl q l) (evSome rfl)) (evSome rfl)
theorem FnExactIsSolved : laws_FnExactIsSolved.Pure := by
  intro p l _ hl
  refine Ev.rounds ?_
  unfold laws_FnExactIsSolved.f
  refine evBind0 (szPuzzle_eq p l hl.1) ?_
  by_cases h : 1048576 < l.length
  · rw [if_pos h]
    exact evPos (by omega) (evSome rfl)
  rw [if_neg h]
  refine evNeg (by omega) ?_
  generalize hm0 : l.map cvClue = m
  have hml : m.length ≤ 1048576 := by rw [← hm0]; simp; omega
  have hP : Ev (fun k => laws_toPuzzle.f k p l) (p, m) := by rw [← hm0]; exact toPuzzle_ev p l (by omega)
  refine Ev.bind hP (Ev.bind (Solved_spec p m) (Ev.bind hP (Ev.bind (Solved_impl p m) (evNeg (by simp) ?_))))
  refine Ev.step (fun k => by rw [laws_FnExactIsSolved.j0]) ?_
  exact evNeg (by simp) (Ev.bind hP (Ev.bind (eqPuzzle_self p m (by omega)) (evPos rfl (evSome rfl))))
end Go.Proofs.Ytonifgfgeollaaa.Pure
end
