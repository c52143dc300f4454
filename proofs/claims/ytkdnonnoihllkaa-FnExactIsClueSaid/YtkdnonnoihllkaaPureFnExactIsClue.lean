/- The program's IsClue and the reference's come to the same, at every input. -/
import Derived.Test.YtkdnonnoihllkaaQFnExactIsClue
import Derived.Test.YtkdnonnoihllkaaX2
import Derived.Test.YtkdnonnoihllkaaX4
import Derived.Test.YtkdnonnoihllkaaLPzClue
namespace Go.Proofs.Ytkdnonnoihllkaa.Pure
open Go.RowKit Go.Proofs.Ytkdnonnoihllkaa.X Go.Proofs.YtkdnonnoihllkaaW.PrintWords Go.Proofs.YtkdnonnoihllkaaW.PrintLast
theorem FnExactIsClue : laws_FnExactIsClue.Pure := by
  intro p k a b _ _ _ _
  refine ⟨1, ?_⟩
  unfold laws_FnExactIsClue.f laws_toClue.f
  simp only [Option.bind_some]
  rw [IsClue_spec 0, IsClue_impl 0]
  simp
end Go.Proofs.Ytkdnonnoihllkaa.Pure
