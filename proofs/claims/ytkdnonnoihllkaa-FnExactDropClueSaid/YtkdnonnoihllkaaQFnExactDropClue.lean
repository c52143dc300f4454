-- Written by a program of this session (wip/tools/mp.py) over the kit's print of the translation.
import Derived.Test.YtkdnonnoihllkaaX17
namespace Go.Proofs.Ytkdnonnoihllkaa.X
open Go.RowKit Go.Proofs.YtkdnonnoihllkaaW.PrintWords Go.Proofs.YtkdnonnoihllkaaW.PrintLast Go.Proofs.YtkdnonnoihllkaaW.PrintMore
attribute [local go_sem] max2_int min2_int max_two min_two max_three min_three max_four min_four   -- for this text's walks alone
set_option linter.unusedVariables false
set_option linter.unusedSimpArgs false

/-- The pure statement of FnExactDropClue. -/
def laws_FnExactDropClue.Pure : Prop := ∀ (a0_0 : Int) (l0_1 : List (S23)) (a1 : Int), (Lit.int .i64 a0_0).wf = true → (l0_1.length ≤ maxLen ∧ ∀ y ∈ l0_1, ((Lit.int .i64 y.f0).wf = true ∧ (Lit.int .i64 y.f1).wf = true ∧ (Lit.int .i64 y.f2).wf = true)) → (Lit.int .i64 a1).wf = true → ∃ k, laws_FnExactDropClue.f k a0_0 l0_1 a1 = some true
end Go.Proofs.Ytkdnonnoihllkaa.X
