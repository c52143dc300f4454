/- What makes a puzzle: the program's and the reference's test come to the same. -/
--! needs LBase LPzClue spec_pzGood impl_IsPuzzle
import Derived.Test.YtkdnonnoihllkaaX0
import Derived.Test.YtkdnonnoihllkaaX3
import Derived.Test.YtkdnonnoihllkaaX5
import Derived.Test.YtkdnonnoihllkaaX6
import Derived.Test.YtkdnonnoihllkaaLBase
import Derived.Test.YtkdnonnoihllkaaLPzClue
namespace Go.Proofs.Ytkdnonnoihllkaa.X
open Go.RowKit Go.Proofs.YtkdnonnoihllkaaW.PrintWords Go.Proofs.YtkdnonnoihllkaaW.PrintLast Go.Proofs.YtkdnonnoihllkaaW.PrintMore
attribute [local go_sem] max2_int min2_int max_two min_two max_three min_three max_four min_four   -- for this text's walks alone
set_option linter.unusedVariables false
set_option linter.unusedSimpArgs false

def okClue (p : Int) (c : S25) : Bool := clueB p c.f0 c.f1 c.f2
def goodB (p : Int) (l : List S25) : Bool := inB p 1 8 && decide (l.length ≤ 6) && l.all (okClue p)
theorem pzGood_l0 (p : Int) (l : List S25) (hl : l.length ≤ 6) (d : Nat) : ∀ i : Nat, i + d = l.length → Ev (fun k => spec_pzGood.l0 k l (l.length : Int) (i : Int) p l) ((l.drop i).all (okClue p)) := by
  induction d with
  | zero =>
    intro i hi
    refine Ev.step (fun k => by rw [spec_pzGood.l0]) ?_
    refine evNeg (by omega) (evSome ?_)
    rw [List.drop_of_length_le (by omega)]; rfl
  | succ d ih =>
    intro i hi
    refine Ev.step (fun k => by rw [spec_pzGood.l0]) ?_
    refine evPos (by omega) (evPos (by omega) (evPos (by omega) ?_))
    refine Ev.bind (a := okClue p (rd_T25 l i)) ⟨1, fun k hk => by obtain ⟨m, rfl⟩ : ∃ m, k = m + 1 := ⟨k - 1, by omega⟩; exact pzClue_eq m _ _ _ _⟩ ?_
    have hd : l.drop i = rd_T25 l i :: l.drop (i + 1) := getD_drop_cons l i z25 (by omega)
    cases hb : okClue p (rd_T25 l i) with
    | true =>
      refine evPos rfl ?_
      rw [w64 (by omega) (by omega)]
      refine evEq (ih (i + 1) (by omega)) ?_
      rw [hd, List.all_cons, hb]; rfl
    | false =>
      refine evNeg (by simp) (evSome ?_)
      rw [hd, List.all_cons, hb]; rfl
theorem pzGood_ev (p : Int) (l : List S25) : Ev (fun k => spec_pzGood.f k p l) (goodB p l) := by
  unfold spec_pzGood.f goodB
  refine evBind0 (pzPlaces_eq p) ?_
  cases hp : inB p 1 8 with
  | false =>
    refine evNeg (by simp) ?_
    refine Ev.step (fun k => by rw [spec_pzGood.j0]) ?_
    exact evPos rfl (evSome rfl)
  | true =>
    refine evPos rfl ?_
    refine Ev.step (fun k => by rw [spec_pzGood.j0]) ?_
    by_cases h : l.length ≤ 6
    · refine evNeg (by simp; omega) ?_
      refine evEq (pzGood_l0 p l h l.length 0 (by omega)) ?_
      simp [h]
    · refine evPos (by simp; omega) (evSome ?_)
      simp [h]
theorem IsPuzzle_spec (p : Int) (l : List S25) : Ev (fun k => spec_IsPuzzle.f k p l) (goodB p l) := by
  unfold spec_IsPuzzle.f
  exact Ev.bind (pzGood_ev p l) (evSome rfl)
theorem IsPuzzle_1_ev (p : Int) (l : List S25) (c : S25) (hp : inB p 1 8 = true) : Ev (fun k => impl_IsPuzzle_1.f k c.f0 c.f1 c.f2 p l) (!okClue p c) := by
  unfold impl_IsPuzzle_1.f
  refine Ev.bind (a := okClue p c) ⟨1, fun k hk => by obtain ⟨m, rfl⟩ : ∃ m, k = m + 1 := ⟨k - 1, by omega⟩; show impl_IsClue.f (m + 1) p c.f0 c.f1 c.f2 = _; rw [IsClue_impl m, hp]; rfl⟩ (evSome rfl)
theorem IndexIsPuzzle_l0 (p : Int) (q l : List S25) (hp : inB p 1 8 = true) (hl : l.length ≤ 6) (d : Nat) : ∀ i : Nat, i + d = l.length →
    ∃ r, Ev (fun k => slices_IndexFunc_Clue__IsPuzzle_1.l0 k l (l.length : Int) (i : Int) p q) r ∧ (decide (r ≥ 0) = !(l.drop i).all (okClue p)) := by
  induction d with
  | zero =>
    intro i hi
    refine ⟨-1, ?_, ?_⟩
    · refine Ev.step (fun k => by rw [slices_IndexFunc_Clue__IsPuzzle_1.l0]) ?_
      exact evNeg (by omega) (evSome rfl)
    · rw [List.drop_of_length_le (by omega)]; rfl
  | succ d ih =>
    intro i hi
    have hd : l.drop i = rd_T25 l i :: l.drop (i + 1) := getD_drop_cons l i z25 (by omega)
    have h1 := IsPuzzle_1_ev p q (rd_T25 l i) hp
    cases hb : okClue p (rd_T25 l i) with
    | true =>
      obtain ⟨r, hr, hr2⟩ := ih (i + 1) (by omega)
      rw [hb] at h1
      refine ⟨r, ?_, ?_⟩
      · refine Ev.step (fun k => by rw [slices_IndexFunc_Clue__IsPuzzle_1.l0]) ?_
        refine evPos (by omega) (evPos (by omega) (evPos (by omega) ?_))
        refine Ev.bind h1 ?_
        refine evNeg (by simp) ?_
        rw [w64 (by omega) (by omega)]
        exact hr
      · rw [hr2, hd, List.all_cons, hb]; rfl
    | false =>
      rw [hb] at h1
      refine ⟨(i : Int), ?_, ?_⟩
      · refine Ev.step (fun k => by rw [slices_IndexFunc_Clue__IsPuzzle_1.l0]) ?_
        refine evPos (by omega) (evPos (by omega) (evPos (by omega) ?_))
        refine Ev.bind h1 ?_
        exact evPos (by simp) (evSome rfl)
      · rw [hd, List.all_cons, hb]
        simp
theorem IsPuzzle_impl (p : Int) (l : List S25) : Ev (fun k => impl_IsPuzzle.f k p l) (goodB p l) := by
  unfold impl_IsPuzzle.f goodB
  refine evBind0 (arePlacesOf_eq p) ?_
  cases hp : inB p 1 8 with
  | false => exact evNeg (by simp) (evSome rfl)
  | true =>
    refine evPos rfl ?_
    by_cases h : l.length ≤ 6
    · refine evPos (by omega) ?_
      obtain ⟨r, hr, hr2⟩ := IndexIsPuzzle_l0 p l l hp h l.length 0 (by omega)
      unfold slices_ContainsFunc_Clue__IsPuzzle_1.f slices_IndexFunc_Clue__IsPuzzle_1.f
      refine Ev.bind (Ev.bind hr (evSome rfl)) (evSome ?_)
      rw [hr2]
      simp [h]
    · refine evNeg (by omega) (evSome ?_)
      simp [h]
end Go.Proofs.Ytkdnonnoihllkaa.X
