import Derived.Test.YticmboabiemniaaP4
import Derived.Test.YticmboabiemniaaP15
import Derived.Test.YticmboabiemniaaP22
import Derived.Test.YticmboabiemniaaP24
import Derived.Test.YticmboabiemniaaP28
import Derived.Test.YticmboabiemniaaP29
section
-- Written by a program of this session (wip/tools/mp.py) over the kit's print of the translation.
namespace Go.Proofs.Yticmboabiemniaa.X
open Go.RowKit Go.Proofs.YticmboabiemniaaW.PrintWords Go.Proofs.YticmboabiemniaaW.PrintLast Go.Proofs.YticmboabiemniaaW.PrintMore
attribute [local go_sem] max2_int min2_int max_two min_two max_three min_three max_four min_four   -- for this text's walks alone
set_option linter.unusedVariables false
set_option linter.unusedSimpArgs false
/-- The pure statement of FnExactHarderPuzzle. -/
def laws_FnExactHarderPuzzle.Pure : Prop := ∀ (a0_0 : Int) (l0_1 : List (S61)), (Lit.int .i64 a0_0).wf = true → (l0_1.length ≤ maxLen ∧ ∀ y ∈ l0_1, ((Lit.int .i64 y.f0).wf = true ∧ (Lit.int .i64 y.f1).wf = true ∧ (Lit.int .i64 y.f2).wf = true)) → ∃ k, laws_FnExactHarderPuzzle.f k a0_0 l0_1 = some true
end Go.Proofs.Yticmboabiemniaa.X
end
section
/- Lists of clues looked at, as the laws do. -/
--! needs LBase LClueM laws_heldPuzzle
namespace Go.Proofs.Yticmboabiemniaa.X
open Go.Proofs.Yticmboabiemniaa.Sq Go.RowKit Go.Proofs.YticmboabiemniaaW.PrintWords Go.Proofs.YticmboabiemniaaW.PrintLast Go.Proofs.YticmboabiemniaaW.PrintMore
attribute [local go_sem] max2_int min2_int max_two min_two max_three min_three max_four min_four   -- for this text's walks alone
set_option linter.unusedVariables false
set_option linter.unusedSimpArgs false
theorem heldClueS_l0 (m : Int) (n : Nat) (h0 : 0 ≤ m) (hm : m + 3 * n ≤ 4611686018427387904) (d : Nat) : ∀ i : Nat, i + d = n → Ev (fun k => laws_heldClueS.l0 k (mkC m n) (m + 3 * i) (i : Int)) (m + 3 * n) := by
  induction d with
  | zero =>
    intro i hi
    refine Ev.step (fun k => by rw [laws_heldClueS.l0]) ?_
    refine evNeg (by rw [mkC_len]; omega) (evSome ?_)
    rw [show i = n by omega]
  | succ d ih =>
    intro i hi
    refine Ev.step (fun k => by rw [laws_heldClueS.l0]) ?_
    rw [w64 (x := m + 3 * i + 1) (by omega) (by omega), w64 (x := m + 3 * i + 1 + 1) (by omega) (by omega), w64 (x := m + 3 * i + 1 + 1 + 1) (by omega) (by omega), w64 (x := (i : Int) + 1) (by omega) (by omega), mkC_at m n i (by omega)]
    refine evPos (by rw [mkC_len]; omega) (evPos (by omega) (evPos rfl (evPos rfl (evPos (by show m + 3 * (i : Int) + 2 = _; omega) ?_))))
    have h2 := ih (i + 1) (by omega)
    have e4 : m + 3 * ((i + 1 : Nat) : Int) = m + 3 * (i : Int) + 1 + 1 + 1 := by omega
    rw [e4] at h2
    exact h2
theorem heldPuzzle_ev (p : Int) (n : Nat) (hm : n ≤ 1048577) : Ev (fun k => laws_heldPuzzle.f k p (mkC 1 n) 1) (1 + 3 * (n : Int)) := by
  unfold laws_heldPuzzle.f laws_heldClueS.f
  have h := heldClueS_l0 1 n (by omega) (by omega) n 0 (by omega)
  refine Ev.bind (a := 1 + 3 * (n : Int)) (by simpa using h) ?_
  exact evNeg (by omega) (evSome rfl)
end Go.Proofs.Yticmboabiemniaa.X
end
section
/- The program's HarderPuzzle and the reference's come to the same, at every input; what is handed back is new. -/
namespace Go.Proofs.Yticmboabiemniaa.Pure
open Go.RowKit Go.Proofs.Yticmboabiemniaa.X Go.Proofs.YticmboabiemniaaW.PrintWords Go.Proofs.YticmboabiemniaaW.PrintLast
/-- The clues that are left: each is struck out, from the one with index i on, if there is one solution still. -/
def hardF (q : Int) : Nat → List S55 → Nat → List S55
 | 0, l, _ => l
 | e + 1, l, i => if (((solC q (l.eraseIdx i)).length : Nat) : Int) = 1 then hardF q e (l.eraseIdx i) i else hardF q e l (i + 1)
theorem hardF_len (q : Int) : ∀ (e : Nat) (l : List S55) (i : Nat), (hardF q e l i).length ≤ l.length
 | 0, _, _ => Nat.le_refl _
 | e + 1, l, i => by
  unfold hardF
  split
  · exact Nat.le_trans (hardF_len q e _ i) (List.length_eraseIdx_le l i)
  · exact hardF_len q e l (i + 1)
def hardC (q : Int) (l : List S55) : Int × List S55 × Bool :=
  if goodB q l = true ∧ (((solC q l).length : Nat) : Int) = 1 then (q, hardF q l.length l 0, true) else (0, [], false)
theorem sol_any (q : Int) (l : List S55) (hg : goodB q l = true) : Ev (fun k => impl_solutions.f k q l) (solC q l) := by
  unfold solC
  rw [if_pos hg]
  obtain ⟨p, rfl, h1, h2, h3, h4⟩ := goodB_parts q _ hg
  rw [Int.toNat_natCast]
  exact sol_ev p h1 h2 _ h3 h4
theorem hard_spec_l0 (q : Int) (L : List S55) (e : Nat) : ∀ (l : List S55) (i : Nat), goodB q l = true → i + e = l.length →
    Ev (fun k => spec_HarderPuzzle.l0 k l (i : Int) q L) (q, hardF q e l i, true) := by
  induction e with
  | zero =>
    intro l i hg hi
    refine Ev.step (fun k => by rw [spec_HarderPuzzle.l0]) ?_
    exact evNeg (by omega) (evSome rfl)
  | succ e ih =>
    intro l i hg hi
    have hl := goodB_len q l hg
    refine Ev.step (fun k => by rw [spec_HarderPuzzle.l0]) ?_
    rw [i1 i (by omega)]
    refine evPos (by omega) (evBind0 (pzWithout_eq l i hl (by omega) (by omega)) ?_)
    rw [Int.toNat_natCast]
    unfold spec_pzSolved.f
    refine Ev.bind (Ev.bind (all_spec q _ (good_erase q l hg i)) (evSome rfl)) ?_
    unfold hardF
    by_cases c : (((solC q (l.eraseIdx i)).length : Nat) : Int) = 1
    · rw [if_pos c]
      refine evPos (by rw [beq_iff_eq]; exact c) (ih _ i (good_erase q l hg i) ?_)
      rw [List.length_eraseIdx, if_pos (by omega)]
      omega
    · rw [if_neg c]
      exact evNeg (by rw [beq_iff_eq]; exact c) (ih l (i + 1) hg (by omega))
theorem hard_impl_l0 (q : Int) (L : List S55) (e : Nat) : ∀ (l : List S55) (i : Nat), goodB q l = true → i + e = l.length →
    Ev (fun k => impl_HarderPuzzle.l0 k l (i : Int) q L) (q, hardF q e l i, true) := by
  induction e with
  | zero =>
    intro l i hg hi
    refine Ev.step (fun k => by rw [impl_HarderPuzzle.l0]) ?_
    exact evNeg (by omega) (evSome rfl)
  | succ e ih =>
    intro l i hg hi
    have hl := goodB_len q l hg
    refine Ev.step (fun k => by rw [impl_HarderPuzzle.l0]) ?_
    rw [i1 i (by omega)]
    refine evPos (by omega) (evBind0 (dropped_eq l i hl (by omega) (by omega)) ?_)
    rw [Int.toNat_natCast]
    refine Ev.bind (sol_any q _ (good_erase q l hg i)) ?_
    unfold hardF
    by_cases c : (((solC q (l.eraseIdx i)).length : Nat) : Int) = 1
    · rw [if_pos c]
      refine evPos c (ih _ i (good_erase q l hg i) ?_)
      rw [List.length_eraseIdx, if_pos (by omega)]
      omega
    · rw [if_neg c]
      exact evNeg c (ih l (i + 1) hg (by omega))
theorem Hard_spec (q : Int) (l : List S55) : Ev (fun k => spec_HarderPuzzle.f k q l) (hardC q l) := by
  unfold spec_HarderPuzzle.f hardC
  refine Ev.bind (pzGood_ev q l) ?_
  cases hg : goodB q l with
  | false =>
    rw [if_neg (by simp)]
    refine evNeg (by simp) (Ev.step (fun k => by rw [spec_HarderPuzzle.j0]) ?_)
    exact evPos rfl (evSome rfl)
  | true =>
    have hl := goodB_len q l hg
    unfold spec_pzSolved.f
    refine evPos rfl (Ev.bind (Ev.bind (all_spec q l hg) (evSome rfl)) ?_)
    refine Ev.step (fun k => by rw [spec_HarderPuzzle.j0]) ?_
    by_cases c : (((solC q l).length : Nat) : Int) = 1
    · rw [if_pos ⟨rfl, c⟩]
      refine evNeg (by rw [c]; decide) (evBind0 rfl (evPos (by simp; omega) ?_))
      exact hard_spec_l0 q l l.length l 0 hg (Nat.zero_add _)
    · rw [if_neg (fun h => c h.2)]
      refine evPos ?_ (evSome rfl)
      have : ((((solC q l).length : Nat) : Int) == 1) = false := by simpa using c
      rw [this]
      rfl
theorem Hard_impl (q : Int) (l : List S55) : Ev (fun k => impl_HarderPuzzle.f k q l) (hardC q l) := by
  unfold impl_HarderPuzzle.f impl_IsSolved.f impl_CountSolutions.f hardC
  refine Ev.bind (Ev.bind (Ev.bind (Solutions_impl q l) (evSome rfl)) (evSome rfl)) ?_
  by_cases c : (((solC q l).length : Nat) : Int) = 1
  · have hg : goodB q l = true := by
      cases hg : goodB q l with
      | true => rfl
      | false =>
        rw [solC_not q l hg] at c
        exact absurd c (by decide)
    have hl := goodB_len q l hg
    rw [if_pos ⟨hg, c⟩]
    refine evPos (by show ((((solC q l).length : Nat) : Int) == 1) = true; rw [c]; decide) ?_
    unfold slices_Clone_Clue.f
    refine evBind0 (a := l) (by simp; omega) ?_
    exact hard_impl_l0 q l l.length l 0 hg (Nat.zero_add _)
  · rw [if_neg (fun h => c h.2)]
    exact evNeg (by show ¬ ((((solC q l).length : Nat) : Int) == 1) = true; rw [beq_iff_eq]; exact c) (evSome rfl)
theorem hardC_len (q : Int) (l : List S55) : (hardC q l).2.1.length ≤ 6 := by
  unfold hardC
  split
  · rename_i h
    exact Nat.le_trans (hardF_len q _ _ _) (goodB_len q l h.1)
  · simp
theorem FnExactHarderPuzzle : laws_FnExactHarderPuzzle.Pure := by
  intro p l _ hl
  refine Ev.rounds ?_
  unfold laws_FnExactHarderPuzzle.f
  refine evBind0 (szPuzzle_eq p l hl.1) ?_
  by_cases h : 1048576 < l.length
  · rw [if_pos h]
    exact evPos (by omega) (evSome rfl)
  rw [if_neg h]
  refine evNeg (by omega) ?_
  generalize hm0 : l.map cvClue = m
  have hml : m.length ≤ 1048576 := by rw [← hm0]; simp; omega
  have hP : Ev (fun k => laws_toPuzzle.f k p l) (p, m) := by rw [← hm0]; exact toPuzzle_ev p l (by omega)
  have hS := Hard_spec p m
  have hI := Hard_impl p m
  have hlen := hardC_len p m
  generalize hr : hardC p m = r at hS hI hlen
  have hE := eqPuzzle_self r.1 r.2.1 (by omega)
  have hM := markPuzzle_ev r.1 r.2.1 (by omega)
  have hH := heldPuzzle_ev r.1 r.2.1.length (by omega)
  refine Ev.bind hP (Ev.bind hS (Ev.bind hP (Ev.bind hI (Ev.bind hE (evPos rfl ?_)))))
  refine Ev.step (fun k => by rw [laws_FnExactHarderPuzzle.j0]) ?_
  refine evNeg (by simp) (Ev.bind hP (Ev.bind (eqPuzzle_self p m (by omega)) (evPos rfl ?_)))
  refine Ev.bind (markPuzzle_ev p m (by omega)) (evNeg (by simp; omega) ?_)
  refine Ev.bind hE (evPos rfl ?_)
  refine Ev.step (fun k => by rw [laws_FnExactHarderPuzzle.j1]) ?_
  refine evNeg (by simp) (Ev.bind hM (Ev.bind hH (evNeg (by omega) (evPos rfl ?_))))
  refine Ev.bind hP (Ev.bind hI (Ev.bind hE (evPos rfl ?_)))
  refine Ev.step (fun k => by rw [laws_FnExactHarderPuzzle.j2]) ?_
  exact evNeg (by simp) (Ev.bind hH (evNeg (by omega) (evPos rfl (evSome rfl))))
end Go.Proofs.Yticmboabiemniaa.Pure
end
