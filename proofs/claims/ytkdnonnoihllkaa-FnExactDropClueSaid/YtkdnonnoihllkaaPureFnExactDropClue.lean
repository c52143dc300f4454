/- The program's DropClue and the reference's come to the same, at every input; what is handed back is new. -/
import Derived.Test.YtkdnonnoihllkaaQFnExactDropClue
import Derived.Test.YtkdnonnoihllkaaX4
import Derived.Test.YtkdnonnoihllkaaX17
import Derived.Test.YtkdnonnoihllkaaLBase
import Derived.Test.YtkdnonnoihllkaaLClueS
import Derived.Test.YtkdnonnoihllkaaLClueM
import Derived.Test.YtkdnonnoihllkaaLDropClue
namespace Go.Proofs.Ytkdnonnoihllkaa.Pure
open Go.RowKit Go.Proofs.Ytkdnonnoihllkaa.X Go.Proofs.YtkdnonnoihllkaaW.PrintWords Go.Proofs.YtkdnonnoihllkaaW.PrintLast
theorem FnExactDropClue : laws_FnExactDropClue.Pure := by
  intro p l c _ hl _
  refine Ev.rounds ?_
  unfold laws_FnExactDropClue.f
  refine evBind0 (szPuzzle_eq p l hl.1) ?_
  by_cases h : 1048576 < l.length
  · rw [if_pos h]
    exact evPos (by omega) (evSome rfl)
  rw [if_neg h]
  refine evNeg (by omega) ?_
  generalize hm0 : l.map cvClue = m
  have hml : m.length ≤ 1048576 := by rw [← hm0]; simp; omega
  have hP : Ev (fun k => laws_toPuzzle.f k p l) (p, m) := by rw [← hm0]; exact toPuzzle_ev p l (by omega)
  have hS := DropClue_spec p m c
  have hI := DropClue_impl p m c
  have hlen := dropC_len p m c hml
  generalize hr : dropC p m c = r at hS hI hlen
  have hE := eqPuzzle_self r.1 r.2.1 (by omega)
  have hM := markPuzzle_ev r.1 r.2.1 hlen
  have hH := heldPuzzle_ev r.1 r.2.1.length hlen
  refine Ev.bind hP (Ev.bind hS (Ev.bind hP (Ev.bind hI (Ev.bind hE (evPos rfl ?_)))))
  refine Ev.step (fun k => by rw [laws_FnExactDropClue.j0]) ?_
  refine evNeg (by simp) (Ev.bind hP (Ev.bind (eqPuzzle_self p m (by omega)) (evPos rfl ?_)))
  refine Ev.bind (markPuzzle_ev p m (by omega)) (evNeg (by simp; omega) ?_)
  refine Ev.bind hE (evPos rfl ?_)
  refine Ev.step (fun k => by rw [laws_FnExactDropClue.j1]) ?_
  refine evNeg (by simp) (Ev.bind hM (Ev.bind hH (evNeg (by omega) (evPos rfl ?_))))
  refine Ev.bind hP (Ev.bind hI (Ev.bind hE (evPos rfl ?_)))
  refine Ev.step (fun k => by rw [laws_FnExactDropClue.j2]) ?_
  exact evNeg (by simp) (Ev.bind hH (evNeg (by omega) (evPos rfl (evSome rfl))))
end Go.Proofs.Ytkdnonnoihllkaa.Pure
