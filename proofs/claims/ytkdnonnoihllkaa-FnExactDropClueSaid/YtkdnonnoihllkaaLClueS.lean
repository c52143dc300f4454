/- Lists of clues: turned, compared, marked and looked at as the laws do. -/
--! needs LBase laws_toClueS laws_eqClueS laws_szPuzzle
import Derived.Test.YtkdnonnoihllkaaX0
import Derived.Test.YtkdnonnoihllkaaX1
import Derived.Test.YtkdnonnoihllkaaX4
import Derived.Test.YtkdnonnoihllkaaX6
import Derived.Test.YtkdnonnoihllkaaX7
import Derived.Test.YtkdnonnoihllkaaX8
import Derived.Test.YtkdnonnoihllkaaLBase
namespace Go.Proofs.Ytkdnonnoihllkaa.X
open Go.RowKit Go.Proofs.YtkdnonnoihllkaaW.PrintWords Go.Proofs.YtkdnonnoihllkaaW.PrintLast Go.Proofs.YtkdnonnoihllkaaW.PrintMore
attribute [local go_sem] max2_int min2_int max_two min_two max_three min_three max_four min_four   -- for this text's walks alone
set_option linter.unusedVariables false
set_option linter.unusedSimpArgs false

def cvClue (x : S23) : S25 := ⟨x.f0, x.f1, x.f2⟩
theorem toClueS_l0 (l : List S23) (hl : l.length ≤ 1048576) (z : List S25) (hz : z.length = l.length) (d : Nat) : ∀ i : Nat, i + d = l.length →
    Ev (fun k => laws_toClueS.l0 k l ((l.map cvClue).take i ++ z.drop i) (i : Int)) (l.map cvClue) := by
  induction d with
  | zero =>
    intro i hi
    refine Ev.step (fun k => by rw [laws_toClueS.l0]) ?_
    refine evNeg (by omega) (evSome ?_)
    rw [List.take_of_length_le (by simp; omega), List.drop_of_length_le (by omega), List.append_nil]
  | succ d ih =>
    intro i hi
    refine Ev.step (fun k => by rw [laws_toClueS.l0]) ?_
    refine evPos (by omega) (evPos (by omega) ?_)
    unfold laws_toClue.f
    refine evBind0 rfl ?_
    refine evPos (by rw [mid_len _ _ _ (by simp; omega) (by simp; omega)]; simp; omega) ?_
    have h1 := set_mid (l.map cvClue) z i (by simp; omega) (by simp; omega)
    rw [w64 (by omega) (by omega)]
    have h2 := ih (i + 1) (by omega)
    rw [← h1] at h2
    have h3 : (l.map cvClue)[i]'(by simp; omega) = ⟨(rd_T23 l i).f0, (rd_T23 l i).f1, (rd_T23 l i).f2⟩ := by
      rw [List.getElem_map, getElem_getD l i z23 (by omega)]; rfl
    rw [h3] at h2
    exact h2
theorem toClueS_ev (l : List S23) (hl : l.length ≤ 1048576) : Ev (fun k => laws_toClueS.f k l) (l.map cvClue) := by
  unfold laws_toClueS.f
  refine evPos (by omega) (evPos (by omega) ?_)
  have h := toClueS_l0 l hl (List.replicate ((l.length : Int) : Int).toNat z25) (by simp) l.length 0 (by omega)
  simpa using h
theorem toPuzzle_ev (p : Int) (l : List S23) (hl : l.length ≤ 1048576) : Ev (fun k => laws_toPuzzle.f k p l) (p, l.map cvClue) := by
  unfold laws_toPuzzle.f
  exact Ev.bind (toClueS_ev l hl) (evSome rfl)
theorem szPuzzle_eq (p : Int) (l : List S23) (hl : l.length ≤ maxLen) : laws_szPuzzle.f p l 1048576 = some (if 1048576 < l.length then -1 else 1048576 - (l.length : Int)) := by
  unfold maxLen at hl
  unfold laws_szPuzzle.f laws_szClueS.f
  rw [w64 (by omega) (by omega)]
  by_cases h : 1048576 < l.length
  · rw [if_pos (by omega), if_pos h]; rfl
  · rw [if_neg (by omega), if_neg h]
    show (if (1048576 - (l.length : Int)) < 0 then _ else _) = _
    rw [if_neg (by omega)]
theorem eqClue_eq (a b : S25) : laws_eqClue.f a.f0 a.f1 a.f2 b.f0 b.f1 b.f2 = some (decide (a.f0 = b.f0 ∧ a.f1 = b.f1 ∧ a.f2 = b.f2)) := by
  unfold laws_eqClue.f
  by_cases h0 : a.f0 = b.f0 <;> by_cases h1 : a.f1 = b.f1 <;> by_cases h2 : a.f2 = b.f2 <;> simp [h0, h1, h2]
theorem eqClueS_l0 (l : List S25) (hl : l.length ≤ 9223372036854775800) (d : Nat) : ∀ i : Nat, i + d = l.length → Ev (fun k => laws_eqClueS.l0 k l l (i : Int)) true := by
  induction d with
  | zero =>
    intro i hi
    refine Ev.step (fun k => by rw [laws_eqClueS.l0]) ?_
    exact evNeg (by omega) (evSome rfl)
  | succ d ih =>
    intro i hi
    refine Ev.step (fun k => by rw [laws_eqClueS.l0]) ?_
    refine evPos (by omega) (evPos (by omega) (evPos (by omega) ?_))
    refine evBind0 (eqClue_eq _ _) ?_
    refine evPos (by simp) ?_
    rw [w64 (by omega) (by omega)]
    exact ih (i + 1) (by omega)
theorem eqClueS_self (l : List S25) (hl : l.length ≤ 9223372036854775800) : Ev (fun k => laws_eqClueS.f k l l) true := by
  unfold laws_eqClueS.f
  exact evPos rfl (eqClueS_l0 l hl l.length 0 (by omega))
theorem eqPuzzle_self (p : Int) (l : List S25) (hl : l.length ≤ 9223372036854775800) : Ev (fun k => laws_eqPuzzle.f k p l p l) true := by
  unfold laws_eqPuzzle.f
  exact evPos rfl (Ev.bind (eqClueS_self l hl) (evPos rfl (evSome rfl)))
end Go.Proofs.Ytkdnonnoihllkaa.X
