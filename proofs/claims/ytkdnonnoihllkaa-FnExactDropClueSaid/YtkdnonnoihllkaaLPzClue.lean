/- What makes a clue, in plain Lean: the program's and the reference's test come to the same. -/
--! needs impl_within spec_l1In impl_IsClue spec_IsClue
import Derived.Test.YtkdnonnoihllkaaX0
import Derived.Test.YtkdnonnoihllkaaX1
import Derived.Test.YtkdnonnoihllkaaX2
import Derived.Test.YtkdnonnoihllkaaX3
namespace Go.Proofs.Ytkdnonnoihllkaa.X
open Go.RowKit Go.Proofs.YtkdnonnoihllkaaW.PrintWords Go.Proofs.YtkdnonnoihllkaaW.PrintLast Go.Proofs.YtkdnonnoihllkaaW.PrintMore
attribute [local go_sem] max2_int min2_int max_two min_two max_three min_three max_four min_four   -- for this text's walks alone
set_option linter.unusedVariables false
set_option linter.unusedSimpArgs false

def inB (a l h : Int) : Bool := decide (l ≤ a) && decide (a ≤ h)
theorem within_eq (a l h : Int) : impl_within.f a l h = some (inB a l h) := by
  unfold impl_within.f inB
  by_cases c : l ≤ a <;> simp [c]
theorem l1In_eq (a l h : Int) : spec_l1In.f a l h = some (inB a l h) := by
  unfold spec_l1In.f inB
  by_cases c : l ≤ a
  · rw [if_pos (by omega)]; simp [c]
  · rw [if_neg (by omega)]; simp [c]
def clueB (p k a b : Int) : Bool :=
  if k = 0 ∨ k = 5 then decide (a = 0) && inB b 0 p else if k = 1 then inB a 1 p && inB b 0 1 else if k = 2 then inB a 1 9 && inB b 0 9 else if k = 3 then decide (a = 0) && inB b 1 9 else if k = 4 then inB a 1 9 && inB b 0 256 else false
theorem pzPlaces_eq (p : Int) : spec_pzPlaces.f p = some (inB p 1 8) := by
  unfold spec_pzPlaces.f
  rw [l1In_eq]; rfl
theorem arePlacesOf_eq (p : Int) : impl_arePlacesOf.f p = some (inB p 1 8) := by
  unfold impl_arePlacesOf.f
  rw [within_eq]; rfl
theorem pzClue_eq (n : Nat) (p k a b : Int) : spec_pzClue.f (n + 1) p k a b = some (clueB p k a b) := by
  unfold spec_pzClue.f clueB
  simp only [spec_pzClue.j0, l1In_eq, Option.bind_some]
  by_cases h0 : k = 0
  · subst h0; by_cases ha : a = 0 <;> simp [ha]
  · by_cases h5 : k = 5
    · subst h5; by_cases ha : a = 0 <;> simp [ha]
    · simp only [h0, h5, if_false, or_false, beq_iff_eq]
      by_cases h1 : k = 1
      · simp only [h1, if_true]; cases inB a 1 p <;> simp
      · by_cases h2 : k = 2
        · subst h2; cases h : inB a 1 9 <;> simp
        · by_cases h3 : k = 3
          · subst h3; by_cases ha : a = 0 <;> simp [ha]
          · by_cases h4 : k = 4
            · subst h4; cases h : inB a 1 9 <;> simp
            · simp [h1, h2, h3, h4]
theorem IsClue_spec (n : Nat) (p k a b : Int) : spec_IsClue.f (n + 1) p k a b = some (inB p 1 8 && clueB p k a b) := by
  unfold spec_IsClue.f
  rw [pzPlaces_eq, pzClue_eq]
  cases inB p 1 8 <;> simp
theorem IsClue_impl (n : Nat) (p k a b : Int) : impl_IsClue.f (n + 1) p k a b = some (inB p 1 8 && clueB p k a b) := by
  unfold impl_IsClue.f clueB
  rw [arePlacesOf_eq]
  cases inB p 1 8
  · simp
  simp only [impl_IsClue.j0, within_eq, Option.bind_some, if_true, Bool.true_and]
  by_cases h0 : k = 0
  · subst h0; by_cases ha : a = 0 <;> simp [ha]
  · by_cases h5 : k = 5
    · subst h5; by_cases ha : a = 0 <;> simp [ha]
    · simp only [h0, h5, if_false, or_false, beq_iff_eq]
      by_cases h1 : k = 1
      · simp only [h1, if_true]; cases inB a 1 p <;> simp
      · by_cases h2 : k = 2
        · subst h2; cases h : inB a 1 9 <;> simp
        · by_cases h3 : k = 3
          · subst h3; by_cases ha : a = 0 <;> simp [ha]
          · by_cases h4 : k = 4
            · subst h4; cases h : inB a 1 9 <;> simp
            · simp [h1, h2, h3, h4]
end Go.Proofs.Ytkdnonnoihllkaa.X
