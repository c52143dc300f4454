import Derived.Test.YticmboabiemniaaP4
import Derived.Test.YticmboabiemniaaP9
import Derived.Test.YticmboabiemniaaP15
import Derived.Test.YticmboabiemniaaP18
import Derived.Test.YticmboabiemniaaP21
import Derived.Test.YticmboabiemniaaP22
import Derived.Test.YticmboabiemniaaP23
import Derived.Test.YticmboabiemniaaP24
section
/- The program's NeedlessClues and the reference's come to the same, at every input; what is handed back is new. -/
namespace Go.Proofs.Yticmboabiemniaa.Pure
open Go.RowKit Go.Proofs.Yticmboabiemniaa.X Go.Proofs.YticmboabiemniaaW.PrintWords Go.Proofs.YticmboabiemniaaW.PrintLast
/-- The needless clues among the first n. -/
def needTo (q : Int) (l : List S55) : Nat → List Int
 | 0 => []
 | n + 1 => if (((solC q (l.eraseIdx n)).length : Nat) : Int) = (((solC q l).length : Nat) : Int) then needTo q l n ++ [(n : Int)] else needTo q l n
theorem needTo_len (q : Int) (l : List S55) : ∀ n, (needTo q l n).length ≤ n
 | 0 => Nat.le_refl _
 | n + 1 => by
  have h := needTo_len q l n
  unfold needTo
  split
  · simp; omega
  · omega
def needC (q : Int) (l : List S55) : List Int := if goodB q l = true then needTo q l l.length else []
theorem sol_any (q : Int) (l : List S55) (hg : goodB q l = true) : Ev (fun k => impl_solutions.f k q l) (solC q l) := by
  unfold solC
  rw [if_pos hg]
  obtain ⟨p, rfl, h1, h2, h3, h4⟩ := goodB_parts q _ hg
  rw [Int.toNat_natCast]
  exact sol_ev p h1 h2 _ h3 h4
theorem need_spec_l0 (q : Int) (l : List S55) (hg : goodB q l = true) (hl : l.length ≤ 6) (e : Nat) : ∀ i : Nat, i + e = l.length →
    Ev (fun k => spec_NeedlessClues.l0 k (needTo q l i) (((solC q l).length : Nat) : Int) (l.length : Int) (i : Int) q l) (needTo q l l.length, true) := by
  induction e with
  | zero =>
    intro i hi
    obtain rfl : i = l.length := by omega
    refine Ev.step (fun k => by rw [spec_NeedlessClues.l0]) ?_
    exact evNeg (by omega) (evSome rfl)
  | succ e ih =>
    intro i hi
    have h := ih (i + 1) (by omega)
    have hlen := needTo_len q l i
    have hst : needTo q l (i + 1) = if (((solC q (l.eraseIdx i)).length : Nat) : Int) = (((solC q l).length : Nat) : Int) then needTo q l i ++ [(i : Int)] else needTo q l i := rfl
    refine Ev.step (fun k => by rw [spec_NeedlessClues.l0]) ?_
    rw [i1 i (by omega)]
    refine evPos (by omega) (evBind0 (pzWithout_eq l i hl (by omega) (by omega)) ?_)
    rw [Int.toNat_natCast]
    refine Ev.bind (all_spec q _ (good_erase q l hg i)) (evSplit (fun c => ?_) (fun c => ?_))
    · rw [if_pos c] at hst
      rw [hst] at h
      exact evPos (by omega) h
    · rw [if_neg c] at hst
      rw [hst] at h
      exact h
theorem need_impl_l0 (q : Int) (l : List S55) (hg : goodB q l = true) (hl : l.length ≤ 6) (e : Nat) : ∀ i : Nat, i + e = l.length →
    Ev (fun k => impl_NeedlessClues.l0 k (((solC q l).length : Nat) : Int) (needTo q l i) (l.length : Int) (i : Int) q l) (needTo q l l.length, true) := by
  induction e with
  | zero =>
    intro i hi
    obtain rfl : i = l.length := by omega
    refine Ev.step (fun k => by rw [impl_NeedlessClues.l0]) ?_
    exact evNeg (by omega) (evSome rfl)
  | succ e ih =>
    intro i hi
    have h := ih (i + 1) (by omega)
    have hlen := needTo_len q l i
    have hst : needTo q l (i + 1) = if (((solC q (l.eraseIdx i)).length : Nat) : Int) = (((solC q l).length : Nat) : Int) then needTo q l i ++ [(i : Int)] else needTo q l i := rfl
    refine Ev.step (fun k => by rw [impl_NeedlessClues.l0]) ?_
    rw [i1 i (by omega)]
    refine evPos (by omega) (evBind0 (dropped_eq l i hl (by omega) (by omega)) ?_)
    rw [Int.toNat_natCast]
    refine Ev.bind (sol_any q _ (good_erase q l hg i)) (evSplit (fun c => ?_) (fun c => ?_))
    · rw [if_pos c] at hst
      rw [hst] at h
      exact evPos (by omega) h
    · rw [if_neg c] at hst
      rw [hst] at h
      exact h
theorem Need_spec (q : Int) (l : List S55) : Ev (fun k => spec_NeedlessClues.f k q l) (needC q l, goodB q l) := by
  unfold spec_NeedlessClues.f needC
  refine Ev.bind (pzGood_ev q l) ?_
  cases hg : goodB q l with
  | false => exact evNeg (by simp) (evSome rfl)
  | true => exact evPos rfl (Ev.bind (all_spec q l hg) (need_spec_l0 q l hg (goodB_len q l hg) l.length 0 (Nat.zero_add _)))
theorem Need_impl (q : Int) (l : List S55) : Ev (fun k => impl_NeedlessClues.f k q l) (needC q l, goodB q l) := by
  unfold impl_NeedlessClues.f impl_CountSolutions.f needC
  refine Ev.bind (Ev.bind (Solutions_impl q l) (evSome rfl)) ?_
  cases hg : goodB q l with
  | false => exact evNeg (by simp) (evSome rfl)
  | true => exact evPos rfl (need_impl_l0 q l hg (goodB_len q l hg) l.length 0 (Nat.zero_add _))
theorem needC_len (q : Int) (l : List S55) : (needC q l).length ≤ 6 := by
  unfold needC
  split
  · rename_i hg
    exact Nat.le_trans (needTo_len q l _) (goodB_len q l hg)
  · simp
theorem FnExactNeedlessClues : laws_FnExactNeedlessClues.Pure := by
  intro p l _ hl
  refine Ev.rounds ?_
  unfold laws_FnExactNeedlessClues.f
  refine evBind0 (szPuzzle_eq p l hl.1) ?_
  by_cases h : 1048576 < l.length
  · rw [if_pos h]
    exact evPos (by omega) (evSome rfl)
  rw [if_neg h]
  refine evNeg (by omega) ?_
  generalize hm0 : l.map cvClue = m
  have hml : m.length ≤ 1048576 := by rw [← hm0]; simp; omega
  have hP : Ev (fun k => laws_toPuzzle.f k p l) (p, m) := by rw [← hm0]; exact toPuzzle_ev p l (by omega)
  have hS := Need_spec p m
  have hI := Need_impl p m
  have hlen := needC_len p m
  generalize needC p m = s at hS hI hlen
  generalize goodB p m = b at hS hI
  have hE := eqIntS_self s (by omega)
  have hM := markIntS_ev s (by omega)
  have hH := heldIntS_ev s.length (by omega)
  refine Ev.bind hP (Ev.bind hS (Ev.bind hP (Ev.bind hI (Ev.bind hE (evPos rfl ?_)))))
  refine Ev.step (fun k => by rw [laws_FnExactNeedlessClues.j0]) ?_
  refine evNeg (by simp) (Ev.bind hP (Ev.bind (eqPuzzle_self p m (by omega)) (evPos rfl ?_)))
  refine Ev.bind (markPuzzle_ev p m (by omega)) (evNeg (by simp; omega) ?_)
  refine Ev.bind hE (evPos rfl ?_)
  refine Ev.step (fun k => by rw [laws_FnExactNeedlessClues.j1]) ?_
  refine evNeg (by simp) (Ev.bind hM (Ev.bind hH (evNeg (by omega) (evPos rfl ?_))))
  refine Ev.bind hP (Ev.bind hI (Ev.bind hE (evPos rfl ?_)))
  refine Ev.step (fun k => by rw [laws_FnExactNeedlessClues.j2]) ?_
  exact evNeg (by simp) (Ev.bind hH (evNeg (by omega) (evPos rfl (evSome rfl))))
end Go.Proofs.Yticmboabiemniaa.Pure
end
