/- A clue more: the program and the reference. -/
--! needs LBase LPzClue LPzGood LClueS impl_AddClue spec_AddClue
import Derived.Test.YtkdnonnoihllkaaX0
import Derived.Test.YtkdnonnoihllkaaX1
import Derived.Test.YtkdnonnoihllkaaX3
import Derived.Test.YtkdnonnoihllkaaX9
import Derived.Test.YtkdnonnoihllkaaX10
import Derived.Test.YtkdnonnoihllkaaX11
import Derived.Test.YtkdnonnoihllkaaLBase
import Derived.Test.YtkdnonnoihllkaaLPzClue
import Derived.Test.YtkdnonnoihllkaaLPzGood
namespace Go.Proofs.Ytkdnonnoihllkaa.X
open Go.RowKit Go.Proofs.YtkdnonnoihllkaaW.PrintWords Go.Proofs.YtkdnonnoihllkaaW.PrintLast Go.Proofs.YtkdnonnoihllkaaW.PrintMore
attribute [local go_sem] max2_int min2_int max_two min_two max_three min_three max_four min_four   -- for this text's walks alone
set_option linter.unusedVariables false
set_option linter.unusedSimpArgs false

def addC (p : Int) (l : List S25) (c : S25) : Int × List S25 × Bool :=
  if goodB p l = true ∧ okClue p c = true ∧ l.length ≠ 6 then (p, l ++ [c], true) else (0, [], false)
theorem evClue_spec (p : Int) (c : S25) : Ev (fun k => spec_pzClue.f k p c.f0 c.f1 c.f2) (okClue p c) :=
  ⟨1, fun k hk => by obtain ⟨m, rfl⟩ : ∃ m, k = m + 1 := ⟨k - 1, by omega⟩; exact pzClue_eq m _ _ _ _⟩
theorem goodB_in (p : Int) (l : List S25) (h : goodB p l = true) : inB p 1 8 = true ∧ l.length ≤ 6 := by
  unfold goodB at h
  simp only [Bool.and_eq_true, decide_eq_true_eq] at h
  exact ⟨h.1.1, h.1.2⟩
theorem evClue_impl (p : Int) (c : S25) (hp : inB p 1 8 = true) : Ev (fun k => impl_IsClue.f k p c.f0 c.f1 c.f2) (okClue p c) :=
  ⟨1, fun k hk => by obtain ⟨m, rfl⟩ : ∃ m, k = m + 1 := ⟨k - 1, by omega⟩; show impl_IsClue.f (m + 1) p c.f0 c.f1 c.f2 = _; rw [IsClue_impl m, hp]; rfl⟩
theorem AddClue_spec (p : Int) (l : List S25) (c : S25) : Ev (fun k => spec_AddClue.f k p l c.f0 c.f1 c.f2) (addC p l c) := by
  unfold spec_AddClue.f addC
  refine Ev.bind (pzGood_ev p l) ?_
  cases hg : goodB p l with
  | false => exact evNeg (by simp) (evSome (by simp))
  | true =>
    obtain ⟨hp, hl⟩ := goodB_in p l hg
    refine evPos rfl (Ev.bind (evClue_spec p c) ?_)
    cases hc : okClue p c with
    | false => exact evNeg (by simp) (evSome (by simp))
    | true =>
      refine evPos rfl ?_
      by_cases h6 : l.length = 6
      · exact evPos (by omega) (evSome (by simp [h6]))
      · refine evNeg (by omega) (evBind0 rfl (evPos (by simp; omega) (evBind0 rfl (evBind0 rfl (evPos (by simp; omega) (evSome ?_))))))
        simp [h6]
theorem AddClue_impl (p : Int) (l : List S25) (c : S25) : Ev (fun k => impl_AddClue.f k p l c.f0 c.f1 c.f2) (addC p l c) := by
  unfold impl_AddClue.f addC
  refine Ev.bind (IsPuzzle_impl p l) ?_
  cases hg : goodB p l with
  | false => exact evNeg (by simp) (evSome (by simp))
  | true =>
    obtain ⟨hp, hl⟩ := goodB_in p l hg
    refine evPos rfl (Ev.bind (evClue_impl p c hp) ?_)
    cases hc : okClue p c with
    | false => exact evNeg (by simp) (evSome (by simp))
    | true =>
      refine evPos rfl ?_
      by_cases h6 : l.length = 6
      · exact evPos (by omega) (evSome (by simp [h6]))
      · refine evNeg (by omega) ?_
        unfold slices_Clone_Clue.f
        refine evBind0 (a := l) (by simp; omega) (evBind0 rfl (evPos (by simp; omega) (evSome ?_)))
        simp [h6]
theorem addC_len (p : Int) (l : List S25) (c : S25) (h : l.length ≤ 1048576) : (addC p l c).2.1.length ≤ 1048577 := by
  unfold addC
  split <;> simp
  omega
end Go.Proofs.Ytkdnonnoihllkaa.X
