-- Written by a program of this session (wip/tools/mp.py) over the kit's print of the translation.
import Derived.Test.YtfegbmlcbdjcgaaEFnExactFirstSwaps
namespace Go.Proofs.Ytfegbmlcbdjcgaa.X
open Go.RowKit Go.Proofs.YtfegbmlcbdjcgaaW.PrintWords Go.Proofs.YtfegbmlcbdjcgaaW.PrintLast Go.Proofs.YtfegbmlcbdjcgaaW.PrintMore
attribute [local go_sem] max2_int min2_int max_two min_two max_three min_three max_four min_four   -- for this text's walks alone
set_option linter.unusedVariables false
set_option linter.unusedSimpArgs false

/-- The pure statement of FnExactFirstSwaps. -/
def laws_FnExactFirstSwaps.Pure : Prop := ∀ (l0 : List Int), (l0.length ≤ maxLen ∧ ∀ y ∈ l0, (Lit.int .i64 y).wf = true) → l0.length * 8 ≤ 140737488351232 → ∃ k, laws_FnExactFirstSwaps.f k l0 = some true
end Go.Proofs.Ytfegbmlcbdjcgaa.X
