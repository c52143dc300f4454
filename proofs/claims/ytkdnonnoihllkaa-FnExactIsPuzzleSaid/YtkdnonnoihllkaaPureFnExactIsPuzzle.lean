/- The program's IsPuzzle and the reference's come to the same, at every input. -/
import Derived.Test.YtkdnonnoihllkaaQFnExactIsPuzzle
import Derived.Test.YtkdnonnoihllkaaX8
import Derived.Test.YtkdnonnoihllkaaLBase
import Derived.Test.YtkdnonnoihllkaaLClueS
import Derived.Test.YtkdnonnoihllkaaLPzGood
namespace Go.Proofs.Ytkdnonnoihllkaa.Pure
open Go.RowKit Go.Proofs.Ytkdnonnoihllkaa.X Go.Proofs.YtkdnonnoihllkaaW.PrintWords Go.Proofs.YtkdnonnoihllkaaW.PrintLast
theorem FnExactIsPuzzle : laws_FnExactIsPuzzle.Pure := by
  intro p l _ hl
  refine Ev.rounds ?_
  unfold laws_FnExactIsPuzzle.f
  refine evBind0 (szPuzzle_eq p l hl.1) ?_
  by_cases h : 1048576 < l.length
  · rw [if_pos h]
    exact evPos (by omega) (evSome rfl)
  · rw [if_neg h]
    refine evNeg (by omega) ?_
    have hm : (l.map cvClue).length ≤ 9223372036854775800 := by simp; omega
    refine Ev.bind (toPuzzle_ev p l (by omega)) ?_
    refine Ev.bind (IsPuzzle_spec _ _) ?_
    refine Ev.bind (toPuzzle_ev p l (by omega)) ?_
    refine Ev.bind (IsPuzzle_impl _ _) ?_
    refine evNeg (by simp) ?_
    refine Ev.bind (toPuzzle_ev p l (by omega)) ?_
    refine Ev.bind (eqPuzzle_self _ _ hm) ?_
    exact evPos rfl (evSome rfl)
end Go.Proofs.Ytkdnonnoihllkaa.Pure
