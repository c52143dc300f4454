/- A clue less: the program and the reference. -/
--! needs LBase LPzClue LPzGood LClueS impl_DropClue spec_DropClue
import Derived.Test.YtkdnonnoihllkaaX0
import Derived.Test.YtkdnonnoihllkaaX10
import Derived.Test.YtkdnonnoihllkaaX14
import Derived.Test.YtkdnonnoihllkaaX15
import Derived.Test.YtkdnonnoihllkaaEDeleteClue
import Derived.Test.YtkdnonnoihllkaaX16
import Derived.Test.YtkdnonnoihllkaaLBase
import Derived.Test.YtkdnonnoihllkaaLPzClue
import Derived.Test.YtkdnonnoihllkaaLPzGood
namespace Go.Proofs.Ytkdnonnoihllkaa.X
open Go.RowKit Go.Proofs.YtkdnonnoihllkaaW.PrintWords Go.Proofs.YtkdnonnoihllkaaW.PrintLast Go.Proofs.YtkdnonnoihllkaaW.PrintMore
attribute [local go_sem] max2_int min2_int max_two min_two max_three min_three max_four min_four   -- for this text's walks alone
set_option linter.unusedVariables false
set_option linter.unusedSimpArgs false

def dropC (p : Int) (l : List S25) (k : Int) : Int × List S25 × Bool :=
  if goodB p l = true ∧ 0 ≤ k ∧ k < (l.length : Int) then (p, l.eraseIdx k.toNat, true) else (0, [], false)
theorem goodB_len (p : Int) (l : List S25) (h : goodB p l = true) : l.length ≤ 6 := by
  unfold goodB at h
  simp only [Bool.and_eq_true, decide_eq_true_eq] at h
  exact h.1.2
theorem pzWithout_eq (l : List S25) (k : Int) (hl : l.length ≤ 6) (h0 : 0 ≤ k) (h1 : k < (l.length : Int)) : spec_pzWithout.f l k = some (l.eraseIdx k.toNat) := by
  unfold spec_pzWithout.f
  simp only [Option.bind_some]
  rw [w64 (x := k + 1) (by omega) (by omega), if_pos h0, if_pos (by omega), if_pos (by simp; omega), if_pos (by omega), if_pos (by omega), if_pos (by simp; omega)]
  rw [List.nil_append, List.eraseIdx_eq_take_drop_succ, show (k + 1).toNat = k.toNat + 1 by omega]
theorem dropped_eq (l : List S25) (k : Int) (hl : l.length ≤ 6) (h0 : 0 ≤ k) (h1 : k < (l.length : Int)) : impl_dropped.f l k = some (l.eraseIdx k.toNat) := by
  have hc : slices_Clone_Clue.f l = some l := by
    unfold slices_Clone_Clue.f
    simp
    omega
  unfold impl_dropped.f
  rw [hc]
  simp only [Option.bind_some]
  unfold slices_Delete_Clue.f
  rw [w64 (x := k + 1) (by omega) (by omega), if_pos ⟨h0, rfl, by omega⟩]
  rfl
theorem DropClue_spec (p : Int) (l : List S25) (k : Int) : Ev (fun n => spec_DropClue.f n p l k) (dropC p l k) := by
  unfold spec_DropClue.f dropC
  refine Ev.bind (pzGood_ev p l) ?_
  cases hg : goodB p l with
  | false => exact evNeg (by simp) (evSome (by simp))
  | true =>
    have hl := goodB_len p l hg
    refine evPos rfl (evBind0 (l1In_eq _ _ _) ?_)
    rw [w64 (x := (l.length : Int) - 1) (by omega) (by omega)]
    by_cases hk : 0 ≤ k ∧ k < (l.length : Int)
    · refine evPos (by unfold inB; simp; omega) (evBind0 (pzWithout_eq l k hl hk.1 hk.2) (evSome ?_))
      rw [if_pos ⟨rfl, hk⟩]
    · refine evNeg (by unfold inB; simp; omega) (evSome ?_)
      rw [if_neg (fun h => hk h.2)]
theorem DropClue_impl (p : Int) (l : List S25) (k : Int) : Ev (fun n => impl_DropClue.f n p l k) (dropC p l k) := by
  unfold impl_DropClue.f dropC
  refine Ev.bind (IsPuzzle_impl p l) ?_
  cases hg : goodB p l with
  | false => exact evNeg (by simp) (evSome (by simp))
  | true =>
    have hl := goodB_len p l hg
    refine evPos rfl (evBind0 (within_eq _ _ _) ?_)
    rw [w64 (x := (l.length : Int) - 1) (by omega) (by omega)]
    by_cases hk : 0 ≤ k ∧ k < (l.length : Int)
    · refine evPos (by unfold inB; simp; omega) (evBind0 (dropped_eq l k hl hk.1 hk.2) (evSome ?_))
      rw [if_pos ⟨rfl, hk⟩]
    · refine evNeg (by unfold inB; simp; omega) (evSome ?_)
      rw [if_neg (fun h => hk h.2)]
theorem dropC_len (p : Int) (l : List S25) (k : Int) (h : l.length ≤ 1048576) : (dropC p l k).2.1.length ≤ 1048577 := by
  unfold dropC
  split
  · have := List.length_eraseIdx_le l k.toNat
    show (l.eraseIdx k.toNat).length ≤ _
    omega
  · simp
end Go.Proofs.Ytkdnonnoihllkaa.X
