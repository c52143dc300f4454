import Derived.Test.YtonifgfgeollaaaP4
import Derived.Test.YtonifgfgeollaaaP5
import Derived.Test.YtonifgfgeollaaaP6
import Derived.Test.YtonifgfgeollaaaP7
import Derived.Test.YtonifgfgeollaaaP8
import Derived.Test.YtonifgfgeollaaaP9
import Derived.Test.YtonifgfgeollaaaP10
import Derived.Test.YtonifgfgeollaaaP11
import Derived.Test.YtonifgfgeollaaaP12
import Derived.Test.YtonifgfgeollaaaP13
import Derived.Test.YtonifgfgeollaaaP14
import Derived.Test.YtonifgfgeollaaaP16
section
/- Lists of clues compared with themselves. -/
--! needs LBase laws_eqClueS laws_eqPuzzle
namespace Go.Proofs.Ytonifgfgeollaaa.X
open Go.Proofs.Ytonifgfgeollaaa.Sq Go.RowKit Go.Proofs.YtonifgfgeollaaaW.PrintWords Go.Proofs.YtonifgfgeollaaaW.PrintLast Go.Proofs.YtonifgfgeollaaaW.PrintMore
attribute [local go_sem] max2_int min2_int max_two min_two max_three min_three max_four min_four   -- for this text's walks alone
set_option linter.unusedVariables false
set_option linter.unusedSimpArgs false
theorem eqClue_eq (a b : S25) : laws_eqClue.f a.f0 a.f1 a.f2 b.f0 b.f1 b.f2 = some (decide (a.f0 = b.f0 ∧ a.f1 = b.f1 ∧ a.f2 = b.f2)) := by
  unfold laws_eqClue.f
  by_cases h0 : a.f0 = b.f0 <;> by_cases h1 : a.f1 = b.f1 <;> by_cases h2 : a.f2 = b.f2 <;> simp [h0, h1, h2]
theorem eqClueS_l0 (l : List S25) (hl : l.length ≤ 9223372036854775800) (d : Nat) : ∀ i : Nat, i + d = l.length → Ev (fun k => laws_eqClueS.l0 k l l (i : Int)) true := by
  induction d with
  | zero =>
    intro i hi
    refine Ev.step (fun k => by rw [laws_eqClueS.l0]) ?_
    exact evNeg (by omega) (evSome rfl)
  | succ d ih =>
    intro i hi
    refine Ev.step (fun k => by rw [laws_eqClueS.l0]) ?_
    refine evPos (by omega) (evPos (by omega) (evPos (by omega) ?_))
    refine evBind0 (eqClue_eq _ _) ?_
    refine evPos (by simp) ?_
    rw [w64 (by omega) (by omega)]
    exact ih (i + 1) (by omega)
theorem eqClueS_self (l : List S25) (hl : l.length ≤ 9223372036854775800) : Ev (fun k => laws_eqClueS.f k l l) true := by
  unfold laws_eqClueS.f
  exact evPos rfl (eqClueS_l0 l hl l.length 0 (by omega))
theorem eqPuzzle_self (p : Int) (l : List S25) (hl : l.length ≤ 9223372036854775800) : Ev (fun k => laws_eqPuzzle.f k p l p l) true := by
  unfold laws_eqPuzzle.f
  exact evPos rfl (Ev.bind (eqClueS_self l hl) (evPos rfl (evSome rfl)))
end Go.Proofs.Ytonifgfgeollaaa.X
end
section
/- Lists of clues: turned, compared, marked and looked at as the laws do. -/
--! needs LBase LClueEq laws_toClueS laws_szPuzzle
namespace Go.Proofs.Ytonifgfgeollaaa.X
open Go.Proofs.Ytonifgfgeollaaa.Sq Go.RowKit Go.Proofs.YtonifgfgeollaaaW.PrintWords Go.Proofs.YtonifgfgeollaaaW.PrintLast Go.Proofs.YtonifgfgeollaaaW.PrintMore
attribute [local go_sem] max2_int min2_int max_two min_two max_three min_three max_four min_four   -- for this text's walks alone
set_option linter.unusedVariables false
set_option linter.unusedSimpArgs false
def cvClue (x : S23) : S25 := ⟨x.f0, x.f1, x.f2⟩
theorem toClueS_l0 (l : List S23) (hl : l.length ≤ 1048576) (z : List S25) (hz : z.length = l.length) (d : Nat) : ∀ i : Nat, i + d = l.length →
    Ev (fun k => laws_toClueS.l0 k l ((l.map cvClue).take i ++ z.drop i) (i : Int)) (l.map cvClue) := by
  induction d with
  | zero =>
    intro i hi
    refine Ev.step (fun k => by rw [laws_toClueS.l0]) ?_
    refine evNeg (by omega) (evSome ?_)
    rw [List.take_of_length_le (by simp; omega), List.drop_of_length_le (by omega), List.append_nil]
  | succ d ih =>
    intro i hi
    refine Ev.step (fun k => by rw [laws_toClueS.l0]) ?_
    refine evPos (by omega) (evPos (by omega) ?_)
    unfold laws_toClue.f
    refine evBind0 rfl ?_
    refine evPos (by rw [mid_len _ _ _ (by simp; omega) (by simp; omega)]; simp; omega) ?_
    have h1 := set_mid (l.map cvClue) z i (by simp; omega) (by simp; omega)
    rw [w64 (by omega) (by omega)]
    have h2 := ih (i + 1) (by omega)
    rw [← h1] at h2
    have h3 : (l.map cvClue)[i]'(by simp; omega) = ⟨(rd_T23 l i).f0, (rd_T23 l i).f1, (rd_T23 l i).f2⟩ := by
      rw [List.getElem_map, getElem_getD l i z23 (by omega)]; rfl
    rw [h3] at h2
    exact h2
theorem toClueS_ev (l : List S23) (hl : l.length ≤ 1048576) : Ev (fun k => laws_toClueS.f k l) (l.map cvClue) := by
  unfold laws_toClueS.f
  refine evPos (by omega) (evPos (by omega) ?_)
  have h := toClueS_l0 l hl (List.replicate ((l.length : Int) : Int).toNat z25) (by simp) l.length 0 (by omega)
  simpa using h
theorem toPuzzle_ev (p : Int) (l : List S23) (hl : l.length ≤ 1048576) : Ev (fun k => laws_toPuzzle.f k p l) (p, l.map cvClue) := by
  unfold laws_toPuzzle.f
  exact Ev.bind (toClueS_ev l hl) (evSome rfl)
theorem szPuzzle_eq (p : Int) (l : List S23) (hl : l.length ≤ maxLen) : laws_szPuzzle.f p l 1048576 = some (if 1048576 < l.length then -1 else 1048576 - (l.length : Int)) := by
  unfold maxLen at hl
  unfold laws_szPuzzle.f laws_szClueS.f
  rw [w64 (by omega) (by omega)]
  by_cases h : 1048576 < l.length
  · rw [if_pos (by omega), if_pos h]; rfl
  · rw [if_neg (by omega), if_neg h]
    show (if (1048576 - (l.length : Int)) < 0 then _ else _) = _
    rw [if_neg (by omega)]
end Go.Proofs.Ytonifgfgeollaaa.X
end
section
/- A number within bounds. -/
--! needs impl_within spec_l1In
namespace Go.Proofs.Ytonifgfgeollaaa.X
open Go.Proofs.Ytonifgfgeollaaa.Sq Go.RowKit Go.Proofs.YtonifgfgeollaaaW.PrintWords Go.Proofs.YtonifgfgeollaaaW.PrintLast Go.Proofs.YtonifgfgeollaaaW.PrintMore
attribute [local go_sem] max2_int min2_int max_two min_two max_three min_three max_four min_four   -- for this text's walks alone
set_option linter.unusedVariables false
set_option linter.unusedSimpArgs false
def inB (a l h : Int) : Bool := decide (l ≤ a) && decide (a ≤ h)
theorem within_eq (a l h : Int) : impl_within.f a l h = some (inB a l h) := by
  unfold impl_within.f inB
  by_cases c : l ≤ a <;> simp [c]
theorem l1In_eq (a l h : Int) : spec_l1In.f a l h = some (inB a l h) := by
  unfold spec_l1In.f inB
  by_cases c : l ≤ a
  · rw [if_pos (by omega)]; simp [c]
  · rw [if_neg (by omega)]; simp [c]
end Go.Proofs.Ytonifgfgeollaaa.X
end
section
/- What makes a clue, in plain Lean: the program's and the reference's test come to the same. -/
--! needs LIn impl_IsClue spec_pzClue impl_arePlacesOf
namespace Go.Proofs.Ytonifgfgeollaaa.X
open Go.Proofs.Ytonifgfgeollaaa.Sq Go.RowKit Go.Proofs.YtonifgfgeollaaaW.PrintWords Go.Proofs.YtonifgfgeollaaaW.PrintLast Go.Proofs.YtonifgfgeollaaaW.PrintMore
attribute [local go_sem] max2_int min2_int max_two min_two max_three min_three max_four min_four   -- for this text's walks alone
set_option linter.unusedVariables false
set_option linter.unusedSimpArgs false
def clueB (p k a b : Int) : Bool :=
  if k = 0 ∨ k = 5 then decide (a = 0) && inB b 0 p else if k = 1 then inB a 1 p && inB b 0 1 else if k = 2 then inB a 1 9 && inB b 0 9 else if k = 3 then decide (a = 0) && inB b 1 9 else if k = 4 then inB a 1 9 && inB b 0 256 else false
theorem arePlacesOf_eq (p : Int) : impl_arePlacesOf.f p = some (inB p 1 8) := by
  unfold impl_arePlacesOf.f
  rw [within_eq]; rfl
theorem pzClue_eq (n : Nat) (p k a b : Int) : spec_pzClue.f (n + 1) p k a b = some (clueB p k a b) := by
  unfold spec_pzClue.f clueB
  simp only [spec_pzClue.j0, l1In_eq, Option.bind_some]
  by_cases h0 : k = 0
  · subst h0; by_cases ha : a = 0 <;> simp [ha]
  · by_cases h5 : k = 5
    · subst h5; by_cases ha : a = 0 <;> simp [ha]
    · simp only [h0, h5, if_false, or_false, beq_iff_eq]
      by_cases h1 : k = 1
      · simp only [h1, if_true]; cases inB a 1 p <;> simp
      · by_cases h2 : k = 2
        · subst h2; cases h : inB a 1 9 <;> simp
        · by_cases h3 : k = 3
          · subst h3; by_cases ha : a = 0 <;> simp [ha]
          · by_cases h4 : k = 4
            · subst h4; cases h : inB a 1 9 <;> simp
            · simp [h1, h2, h3, h4]
theorem IsClue_impl (n : Nat) (p k a b : Int) : impl_IsClue.f (n + 1) p k a b = some (inB p 1 8 && clueB p k a b) := by
  unfold impl_IsClue.f clueB
  rw [arePlacesOf_eq]
  cases inB p 1 8
  · simp
  simp only [impl_IsClue.j0, within_eq, Option.bind_some, if_true, Bool.true_and]
  by_cases h0 : k = 0
  · subst h0; by_cases ha : a = 0 <;> simp [ha]
  · by_cases h5 : k = 5
    · subst h5; by_cases ha : a = 0 <;> simp [ha]
    · simp only [h0, h5, if_false, or_false, beq_iff_eq]
      by_cases h1 : k = 1
      · simp only [h1, if_true]; cases inB a 1 p <;> simp
      · by_cases h2 : k = 2
        · subst h2; cases h : inB a 1 9 <;> simp
        · by_cases h3 : k = 3
          · subst h3; by_cases ha : a = 0 <;> simp [ha]
          · by_cases h4 : k = 4
            · subst h4; cases h : inB a 1 9 <;> simp
            · simp [h1, h2, h3, h4]
def okClue (p : Int) (c : S25) : Bool := clueB p c.f0 c.f1 c.f2
end Go.Proofs.Ytonifgfgeollaaa.X
end
section
/- A number of places of hidden rivers. -/
--! needs LIn spec_pzPlaces
namespace Go.Proofs.Ytonifgfgeollaaa.X
open Go.Proofs.Ytonifgfgeollaaa.Sq Go.RowKit Go.Proofs.YtonifgfgeollaaaW.PrintWords Go.Proofs.YtonifgfgeollaaaW.PrintLast Go.Proofs.YtonifgfgeollaaaW.PrintMore
attribute [local go_sem] max2_int min2_int max_two min_two max_three min_three max_four min_four   -- for this text's walks alone
set_option linter.unusedVariables false
set_option linter.unusedSimpArgs false
theorem pzPlaces_eq (p : Int) : spec_pzPlaces.f p = some (inB p 1 8) := by
  unfold spec_pzPlaces.f
  rw [l1In_eq]; rfl
end Go.Proofs.Ytonifgfgeollaaa.X
end
section
/- What makes a puzzle: the program's and the reference's test come to the same. -/
--! needs LBase LPzPlaces LPzClue spec_pzGood impl_IsPuzzle_1 impl_IsPuzzle
namespace Go.Proofs.Ytonifgfgeollaaa.X
open Go.Proofs.Ytonifgfgeollaaa.Sq Go.RowKit Go.Proofs.YtonifgfgeollaaaW.PrintWords Go.Proofs.YtonifgfgeollaaaW.PrintLast Go.Proofs.YtonifgfgeollaaaW.PrintMore
attribute [local go_sem] max2_int min2_int max_two min_two max_three min_three max_four min_four   -- for this text's walks alone
set_option linter.unusedVariables false
set_option linter.unusedSimpArgs false
def goodB (p : Int) (l : List S25) : Bool := inB p 1 8 && decide (l.length ≤ 6) && l.all (okClue p)
theorem pzGood_l0 (p : Int) (l : List S25) (hl : l.length ≤ 6) (d : Nat) : ∀ i : Nat, i + d = l.length → Ev (fun k => spec_pzGood.l0 k l (l.length : Int) (i : Int) p l) ((l.drop i).all (okClue p)) := by
  induction d with
  | zero =>
    intro i hi
    refine Ev.step (fun k => by rw [spec_pzGood.l0]) ?_
    refine evNeg (by omega) (evSome ?_)
    rw [List.drop_of_length_le (by omega)]; rfl
  | succ d ih =>
    intro i hi
    refine Ev.step (fun k => by rw [spec_pzGood.l0]) ?_
    refine evPos (by omega) (evPos (by omega) (evPos (by omega) ?_))
    refine Ev.bind (a := okClue p (rd_T25 l i)) ⟨1, fun k hk => by obtain ⟨m, rfl⟩ : ∃ m, k = m + 1 := ⟨k - 1, by omega⟩; exact pzClue_eq m _ _ _ _⟩ ?_
    have hd : l.drop i = rd_T25 l i :: l.drop (i + 1) := getD_drop_cons l i z25 (by omega)
    cases hb : okClue p (rd_T25 l i) with
    | true =>
      refine evPos rfl ?_
      rw [w64 (by omega) (by omega)]
      refine evEq (ih (i + 1) (by omega)) ?_
      rw [hd, List.all_cons, hb]; rfl
    | false =>
      refine evNeg (by simp) (evSome ?_)
      rw [hd, List.all_cons, hb]; rfl
theorem pzGood_ev (p : Int) (l : List S25) : Ev (fun k => spec_pzGood.f k p l) (goodB p l) := by
  unfold spec_pzGood.f goodB
  refine evBind0 (pzPlaces_eq p) ?_
  cases hp : inB p 1 8 with
  | false =>
    refine evNeg (by simp) ?_
    refine Ev.step (fun k => by rw [spec_pzGood.j0]) ?_
    exact evPos rfl (evSome rfl)
  | true =>
    refine evPos rfl ?_
    refine Ev.step (fun k => by rw [spec_pzGood.j0]) ?_
    by_cases h : l.length ≤ 6
    · refine evNeg (by simp; omega) ?_
      refine evEq (pzGood_l0 p l h l.length 0 (by omega)) ?_
      simp [h]
    · refine evPos (by simp; omega) (evSome ?_)
      simp [h]
theorem IsPuzzle_1_ev (p : Int) (l : List S25) (c : S25) (hp : inB p 1 8 = true) : Ev (fun k => impl_IsPuzzle_1.f k c.f0 c.f1 c.f2 p l) (!okClue p c) := by
  unfold impl_IsPuzzle_1.f
  refine Ev.bind (a := okClue p c) ⟨1, fun k hk => by obtain ⟨m, rfl⟩ : ∃ m, k = m + 1 := ⟨k - 1, by omega⟩; show impl_IsClue.f (m + 1) p c.f0 c.f1 c.f2 = _; rw [IsClue_impl m, hp]; rfl⟩ (evSome rfl)
theorem IndexIsPuzzle_l0 (p : Int) (q l : List S25) (hp : inB p 1 8 = true) (hl : l.length ≤ 6) (d : Nat) : ∀ i : Nat, i + d = l.length →
    ∃ r, Ev (fun k => slices_IndexFunc_Clue__IsPuzzle_1.l0 k l (l.length : Int) (i : Int) p q) r ∧ (decide (r ≥ 0) = !(l.drop i).all (okClue p)) := by
  induction d with
  | zero =>
    intro i hi
    refine ⟨-1, ?_, ?_⟩
    · refine Ev.step (fun k => by rw [slices_IndexFunc_Clue__IsPuzzle_1.l0]) ?_
      exact evNeg (by omega) (evSome rfl)
    · rw [List.drop_of_length_le (by omega)]; rfl
  | succ d ih =>
    intro i hi
    have hd : l.drop i = rd_T25 l i :: l.drop (i + 1) := getD_drop_cons l i z25 (by omega)
    have h1 := IsPuzzle_1_ev p q (rd_T25 l i) hp
    cases hb : okClue p (rd_T25 l i) with
    | true =>
      obtain ⟨r, hr, hr2⟩ := ih (i + 1) (by omega)
      rw [hb] at h1
      refine ⟨r, ?_, ?_⟩
      · refine Ev.step (fun k => by rw [slices_IndexFunc_Clue__IsPuzzle_1.l0]) ?_
        refine evPos (by omega) (evPos (by omega) (evPos (by omega) ?_))
        refine Ev.bind h1 ?_
        refine evNeg (by simp) ?_
        rw [w64 (by omega) (by omega)]
        exact hr
      · rw [hr2, hd, List.all_cons, hb]; rfl
    | false =>
      rw [hb] at h1
      refine ⟨(i : Int), ?_, ?_⟩
      · refine Ev.step (fun k => by rw [slices_IndexFunc_Clue__IsPuzzle_1.l0]) ?_
        refine evPos (by omega) (evPos (by omega) (evPos (by omega) ?_))
        refine Ev.bind h1 ?_
        exact evPos (by simp) (evSome rfl)
      · rw [hd, List.all_cons, hb]
        simp
theorem IsPuzzle_impl (p : Int) (l : List S25) : Ev (fun k => impl_IsPuzzle.f k p l) (goodB p l) := by
  unfold impl_IsPuzzle.f goodB
  refine evBind0 (arePlacesOf_eq p) ?_
  cases hp : inB p 1 8 with
  | false => exact evNeg (by simp) (evSome rfl)
  | true =>
    refine evPos rfl ?_
    by_cases h : l.length ≤ 6
    · refine evPos (by omega) ?_
      obtain ⟨r, hr, hr2⟩ := IndexIsPuzzle_l0 p l l hp h l.length 0 (by omega)
      unfold slices_ContainsFunc_Clue__IsPuzzle_1.f slices_IndexFunc_Clue__IsPuzzle_1.f
      refine Ev.bind (Ev.bind hr (evSome rfl)) (evSome ?_)
      rw [hr2]
      simp [h]
    · refine evNeg (by omega) (evSome ?_)
      simp [h]
theorem goodB_parts (q : Int) (l : List S25) (h : goodB q l = true) : ∃ p : Nat, q = (p : Int) ∧ 1 ≤ p ∧ p ≤ 8 ∧ l.length ≤ 6 ∧ ∀ c ∈ l, okClue (p : Int) c = true := by
  unfold goodB inB at h
  simp only [Bool.and_eq_true, decide_eq_true_eq, List.all_eq_true] at h
  obtain ⟨p, rfl⟩ : ∃ p : Nat, q = (p : Int) := ⟨q.toNat, by omega⟩
  exact ⟨p, rfl, by omega, by omega, h.1.2, h.2⟩
end Go.Proofs.Ytonifgfgeollaaa.X
end
section
/- The places on which one stands, and the greatest gap: the program and the reference. -/
--! needs LBase spec_rvStand spec_rvGap impl_stand impl_longestGap
namespace Go.Proofs.Ytonifgfgeollaaa.X
open Go.Proofs.Ytonifgfgeollaaa.Sq Go.RowKit Go.Proofs.YtonifgfgeollaaaW.PrintWords Go.Proofs.YtonifgfgeollaaaW.PrintLast Go.Proofs.YtonifgfgeollaaaW.PrintMore
attribute [local go_sem] max2_int min2_int max_two min_two max_three min_three max_four min_four   -- for this text's walks alone
set_option linter.unusedVariables false
set_option linter.unusedSimpArgs false
def pl (r : ByteArray) (p : Nat) : Bool := decide (p = 0) || decide (p = r.size + 1) || (bt r ((p : Int) - 1) == 111)
def ints (l : List Nat) : List Int := l.map (fun (x : Nat) => (x : Int))
def stL (r : ByteArray) : List Nat := (List.range (r.size + 2)).filter (pl r)
theorem rvStand_eq (r : ByteArray) (hr : r.size ≤ 100) (p : Nat) (hp : p ≤ r.size + 1) : spec_rvStand.f r (p : Int) = some (pl r p) := by
  unfold spec_rvStand.f pl
  rw [w64 (x := (r.size : Int) + 1) (by omega) (by omega), w64 (x := (p : Int) - 1) (by omega) (by omega)]
  by_cases h0 : p = 0
  · subst h0
    rw [if_pos (show ((0 : Nat) : Int) = 0 from rfl)]
    simp
  rw [if_neg (by omega)]
  by_cases h1 : p = r.size + 1
  · rw [if_pos (by omega)]
    simp [h1]
  rw [if_neg (by omega), if_pos (by omega), if_pos (by omega)]
  simp [h0, h1]
theorem stand_l0 (r : ByteArray) (hr : r.size ≤ 100) (d : Nat) : ∀ i : Nat, i + d = r.size → Ev (fun k => impl_stand.l0 k r (ints ((List.range (i + 1)).filter (pl r))) (r.size : Int) (i : Int)) (ints (stL r)) := by
  have hlen : ∀ i : Nat, i ≤ r.size → (ints ((List.range (i + 1)).filter (pl r))).length < 17592186044416 := fun i hi => by
    unfold ints
    rw [List.length_map]
    have := List.length_filter_le (pl r) (List.range (i + 1))
    rw [List.length_range] at this
    omega
  induction d with
  | zero =>
    intro i hi
    obtain rfl : i = r.size := by omega
    refine Ev.step (fun k => by rw [impl_stand.l0]) ?_
    refine evNeg (by omega) (evPos (hlen _ (Nat.le_refl _)) (evSome ?_))
    rw [w64 (by omega) (by omega)]
    unfold stL
    rw [List.range_succ (n := r.size + 1), List.filter_append]
    have : pl r (r.size + 1) = true := by simp [pl]
    simp [ints, this]
  | succ d ih =>
    intro i hi
    refine Ev.step (fun k => by rw [impl_stand.l0]) ?_
    refine evPos (by omega) (evPos (by omega) (evPos (by omega) ?_))
    have h2 := ih (i + 1) (by omega)
    have hp : pl r (i + 1) = (bt r (i : Int) == 111) := by
      unfold pl
      have e : ((i + 1 : Nat) : Int) - 1 = (i : Int) := by omega
      rw [e]
      simp
      omega
    rw [List.range_succ (n := i + 1), List.filter_append] at h2
    rw [w64 (x := (i : Int) + 1) (by omega) (by omega)]
    refine evSplit (fun hb => ?_) (fun hb => ?_)
    · refine evPos (hlen _ (by omega)) ?_
      have : pl r (i + 1) = true := by rw [hp, hb]; rfl
      simpa [ints, this] using h2
    · have : pl r (i + 1) = false := by rw [hp]; simpa using hb
      simpa [ints, this] using h2
theorem stand_ev (r : ByteArray) (hr : r.size ≤ 100) : Ev (fun k => impl_stand.f k r) (ints (stL r)) := by
  unfold impl_stand.f
  have h := stand_l0 r hr r.size 0 (by omega)
  have : (ints ((List.range (0 + 1)).filter (pl r))) = [0] := by
    have : pl r 0 = true := by simp [pl]
    simp [ints, List.range_succ, this]
  rw [this] at h
  simpa using h
theorem stL_cons (r : ByteArray) : stL r = 0 :: (List.range' 1 (r.size + 1)).filter (pl r) := by
  unfold stL
  rw [List.range_eq_range', show r.size + 2 = (r.size + 1) + 1 by omega, List.range'_succ]
  have : pl r 0 = true := by simp [pl]
  simp [this]
theorem stL_le (r : ByteArray) (x : Nat) (h : x ∈ stL r) : x ≤ r.size + 1 := by
  unfold stL at h
  have := List.mem_range.1 (List.mem_filter.1 h).1
  omega
/-- The greatest gap of places, and where it begins. -/
def gapOf (m f : Int) (l : Nat) : List Nat → Int × Int
 | [] => (m, f)
 | p :: t => if (p : Int) - (l : Int) > m then gapOf ((p : Int) - (l : Int)) (l : Int) p t else gapOf m f p t
theorem rvGap_l0 (r : ByteArray) (hr : r.size ≤ 100) (d : Nat) : ∀ (p l : Nat) (m f : Int), p + d = r.size + 2 → l ≤ 101 → Ev (fun k => spec_rvGap.l0 k r m f (l : Int) (p : Int)) (gapOf m f l ((List.range' p d).filter (pl r))) := by
  induction d with
  | zero =>
    intro p l m f hp hl
    refine Ev.step (fun k => by rw [spec_rvGap.l0]) ?_
    rw [w64 (x := (r.size : Int) + 1) (by omega) (by omega)]
    exact evNeg (by omega) (evSome rfl)
  | succ d ih =>
    intro p l m f hp hl
    refine Ev.step (fun k => by rw [spec_rvGap.l0]) ?_
    rw [w64 (x := (r.size : Int) + 1) (by omega) (by omega), w64 (x := (p : Int) + 1) (by omega) (by omega), w64 (x := (p : Int) - (l : Int)) (by omega) (by omega)]
    refine evPos (by omega) (evBind0 (rvStand_eq r hr p (by omega)) ?_)
    rw [List.range'_succ]
    cases hs : pl r p with
    | true =>
      rw [List.filter_cons_of_pos hs]
      refine evPos rfl ?_
      unfold gapOf
      by_cases hg : (p : Int) - (l : Int) > m
      · rw [if_pos hg]
        exact evPos hg (ih (p + 1) p _ _ (by omega) (by omega))
      · rw [if_neg hg]
        exact evNeg hg (ih (p + 1) p _ _ (by omega) (by omega))
    | false =>
      rw [List.filter_cons_of_neg (by simp [hs])]
      exact evNeg (by simp) (ih (p + 1) l _ _ (by omega) hl)
theorem rvGap_ev (r : ByteArray) (hr : r.size ≤ 100) : Ev (fun k => spec_rvGap.f k r) (gapOf 0 0 0 ((List.range' 1 (r.size + 1)).filter (pl r))) := by
  unfold spec_rvGap.f
  exact rvGap_l0 r hr (r.size + 1) 1 0 0 0 (by omega) (by omega)
theorem rd_ints (L : List Nat) (i : Nat) (h : i < L.length) : rd (ints L) (i : Int) = ((L.getD i 0 : Nat) : Int) := by
  unfold rd ints
  rw [Int.toNat_natCast]
  exact getD_map' L _ i 0 0 h
theorem longestGap_l0 (L : List Nat) (hL : ∀ x ∈ L, x ≤ 101) (hlen : L.length ≤ 1000) (d : Nat) : ∀ (i : Nat) (m f : Int), i + 1 + d = L.length → Ev (fun k => impl_longestGap.l0 k (ints L) m f ((i + 1 : Nat) : Int)) (gapOf m f (L.getD i 0) (L.drop (i + 1))) := by
  have hl : (ints L).length = L.length := by simp [ints]
  have hle : ∀ i, i < L.length → L.getD i 0 ≤ 101 := fun i hi => by
    rw [← getElem_getD L i 0 hi]
    exact hL _ (List.getElem_mem hi)
  induction d with
  | zero =>
    intro i m f hi
    refine Ev.step (fun k => by rw [impl_longestGap.l0]) ?_
    refine evNeg (by rw [hl]; omega) (evSome ?_)
    rw [List.drop_of_length_le (by omega)]
    rfl
  | succ d ih =>
    intro i m f hi
    refine Ev.step (fun k => by rw [impl_longestGap.l0]) ?_
    have h1 := hle i (by omega)
    have h2 := hle (i + 1) (by omega)
    have e1 : wrap64 (((i + 1 : Nat) : Int) - 1) = (i : Int) := by rw [w64 (by omega) (by omega)]; omega
    have e2 : wrap64 (((i + 1 : Nat) : Int) + 1) = ((i + 1 + 1 : Nat) : Int) := by rw [w64 (by omega) (by omega)]; omega
    rw [e1, e2, rd_ints L (i + 1) (by omega), rd_ints L i (by omega)]
    have e3 : wrap64 (((L.getD (i + 1) 0 : Nat) : Int) - ((L.getD i 0 : Nat) : Int)) = ((L.getD (i + 1) 0 : Nat) : Int) - ((L.getD i 0 : Nat) : Int) := w64 (by omega) (by omega)
    rw [e3]
    refine evPos (by rw [hl]; omega) (evPos (by omega) (evPos (by omega) (evPos (by rw [hl]; omega) ?_)))
    rw [getD_drop_cons L (i + 1) 0 (by omega)]
    unfold gapOf
    by_cases hg : ((L.getD (i + 1) 0 : Nat) : Int) - ((L.getD i 0 : Nat) : Int) > m
    · rw [if_pos hg]
      exact evPos hg (ih (i + 1) _ _ (by omega))
    · rw [if_neg hg]
      exact evNeg hg (ih (i + 1) _ _ (by omega))
theorem longestGap_ev (r : ByteArray) (hr : r.size ≤ 100) : Ev (fun k => impl_longestGap.f k r) (gapOf 0 0 0 ((List.range' 1 (r.size + 1)).filter (pl r))) := by
  unfold impl_longestGap.f
  refine Ev.bind (stand_ev r hr) ?_
  have hc := stL_cons r
  have hlen : (stL r).length ≤ 102 := by
    unfold stL
    have := List.length_filter_le (pl r) (List.range (r.size + 2))
    rw [List.length_range] at this
    omega
  have h := longestGap_l0 (stL r) (fun x hx => by have := stL_le r x hx; omega) (by omega) ((stL r).length - 1) 0 0 0 (by rw [hc]; simp; omega)
  rw [hc] at h
  rw [hc]
  exact h
end Go.Proofs.Ytonifgfgeollaaa.X
end
section
/- The fewest leaps to the far bank: the program and the reference. -/
--! needs LBase LGap spec_rvStand spec_rvLeft impl_stand impl_leapsLeft
namespace Go.Proofs.Ytonifgfgeollaaa.X
open Go.Proofs.Ytonifgfgeollaaa.Sq Go.RowKit Go.Proofs.YtonifgfgeollaaaW.PrintWords Go.Proofs.YtonifgfgeollaaaW.PrintLast Go.Proofs.YtonifgfgeollaaaW.PrintMore
attribute [local go_sem] max2_int min2_int max_two min_two max_three min_three max_four min_four   -- for this text's walks alone
set_option linter.unusedVariables false
set_option linter.unusedSimpArgs false
theorem getD_append_right' {α : Type} (P Q : List α) (i : Nat) (d : α) : (P ++ Q).getD (P.length + i) d = Q.getD i d := by
  rw [List.getD_eq_getElem?_getD, List.getD_eq_getElem?_getD, List.getElem?_append_right (by omega), Nat.add_sub_cancel_left]
theorem rd_right (P Q : List Int) (i : Nat) : rd (P ++ Q) ((P.length + i : Nat) : Int) = rd Q (i : Int) := by
  unfold rd
  rw [Int.toNat_natCast, Int.toNat_natCast]
  exact getD_append_right' P Q i 0
theorem lfStep_right (P Q : List Int) (t : Nat) : lfStep P.length (P.length + t) (P ++ Q) = P ++ lfStep 0 t Q := by
  unfold lfStep
  have h0 := rd_right P Q 0
  rw [Nat.add_zero] at h0
  rw [rd_right P Q t, h0]
  split
  · rw [List.set_append_right _ _ (by omega), Nat.sub_self]
  · rfl
theorem lfIn_right (P Q : List Int) : ∀ d, lfIn P.length (P ++ Q) d = P ++ lfIn 0 Q d
 | 0 => rfl
 | d + 1 => by
  show lfStep P.length (P.length + 1 + d) (lfIn P.length (P ++ Q) d) = P ++ lfStep 0 (0 + 1 + d) (lfIn 0 Q d)
  rw [lfIn_right P Q d, Nat.add_assoc, lfStep_right, Nat.zero_add]
theorem lfStep_len (fr t : Nat) (o : List Int) : (lfStep fr t o).length = o.length := by
  unfold lfStep
  split <;> simp
theorem lfIn_len (fr : Nat) (o : List Int) : ∀ d, (lfIn fr o d).length = o.length
 | 0 => rfl
 | d + 1 => (lfStep_len _ _ _).trans (lfIn_len fr o d)
/-- How many places are tried from place p. -/
def lfC (n : Nat) (a : Int) (p : Nat) : Nat := (mn ((p : Int) + a) ((n : Int) + 1) - (p : Int)).toNat
theorem lfC_le (n : Nat) (a : Int) (p : Nat) : lfC n a p ≤ n + 1 - p := by unfold lfC mn; split <;> omega
theorem lfC_lt (n : Nat) (a : Int) (p d : Nat) (h : d < lfC n a p) : ((p + 1 + d : Nat) : Int) ≤ (n : Int) + 1 ∧ ((p + 1 + d : Nat) : Int) ≤ (p : Int) + a := by
  unfold lfC mn at h
  split at h <;> omega
theorem lfC_end (n : Nat) (a : Int) (p : Nat) : ¬ (((p + 1 + lfC n a p : Nat) : Int) ≤ (n : Int) + 1 ∧ ((p + 1 + lfC n a p : Nat) : Int) ≤ (p : Int) + a) := by
  unfold lfC mn
  split <;> omega
/-- What is known of the last d places. -/
def lfT (r : ByteArray) (a : Int) : Nat → List Int
 | 0 => []
 | d + 1 => if d = 0 then [0] else if pl r (r.size + 1 - d) = true then lfIn 0 ((-1) :: lfT r a d) (lfC r.size a (r.size + 1 - d)) else (-1) :: lfT r a d
theorem lfT_len (r : ByteArray) (a : Int) : ∀ d, (lfT r a d).length = d
 | 0 => rfl
 | d + 1 => by
  unfold lfT
  split
  · rename_i h; subst h; rfl
  · split
    · rw [lfIn_len]; simp [lfT_len r a d]
    · simp [lfT_len r a d]
theorem replicate_snoc {α : Type} (n : Nat) (x : α) (l : List α) : List.replicate (n + 1) x ++ l = List.replicate n x ++ (x :: l) := by
  rw [List.replicate_succ', List.append_assoc]
  rfl
theorem lfOut_top (n : Nat) (a : Int) (o : List Int) : lfOut n a (n + 1) o = o := by
  unfold lfOut
  have : (mn (((n + 1 : Nat) : Int) + a) ((n : Int) + 1) - ((n + 1 : Nat) : Int)).toNat = 0 := by unfold mn; split <;> omega
  rw [this]
  rfl
/-- The program: places are gone through backwards, those on which one stands. -/
theorem lf_fold (r : ByteArray) (a : Int) : ∀ d, d ≤ r.size + 1 → ((List.range' (r.size + 1 - d) (d + 1)).filter (pl r)).reverse.foldl (fun o fr => lfOut r.size a fr o) (lfStart r.size) = List.replicate (r.size + 1 - d) (-1) ++ lfT r a (d + 1)
 | 0, _ => by
  have hp : pl r (r.size + 1) = true := by simp [pl]
  rw [Nat.sub_zero, List.range'_succ, List.filter_cons_of_pos hp]
  show lfOut r.size a (r.size + 1) (lfStart r.size) = _
  rw [lfOut_top]
  unfold lfStart
  rw [replicate_snoc (r.size + 1) (-1 : Int) [] |>.symm.trans (List.append_nil _) |>.symm, List.set_append_right _ _ (by simp)]
  simp [lfT]
 | d + 1, h => by
  have ih := lf_fold r a d (by omega)
  rw [List.range'_succ, show r.size + 1 - (d + 1) + 1 = r.size + 1 - d by omega]
  have e1 : lfT r a (d + 1 + 1) = if pl r (r.size + 1 - (d + 1)) = true then lfIn 0 ((-1) :: lfT r a (d + 1)) (lfC r.size a (r.size + 1 - (d + 1))) else (-1) :: lfT r a (d + 1) := by
    conv => lhs; unfold lfT
    rw [if_neg (by omega)]
  have e2 : List.replicate (r.size + 1 - d) (-1 : Int) ++ lfT r a (d + 1) = List.replicate (r.size + 1 - (d + 1)) (-1) ++ ((-1) :: lfT r a (d + 1)) := by
    rw [show r.size + 1 - d = r.size + 1 - (d + 1) + 1 by omega, replicate_snoc]
  cases hs : pl r (r.size + 1 - (d + 1)) with
  | true =>
    rw [List.filter_cons_of_pos hs, List.reverse_cons, List.foldl_append, ih, e1, if_pos hs, e2]
    show lfIn _ _ _ = _
    have h3 := lfIn_right (List.replicate (r.size + 1 - (d + 1)) (-1 : Int)) ((-1) :: lfT r a (d + 1)) (lfC r.size a (r.size + 1 - (d + 1)))
    rw [List.length_replicate] at h3
    exact h3
  | false =>
    rw [List.filter_cons_of_neg (by rw [hs]; exact Bool.false_ne_true), ih, e1, if_neg (by rw [hs]; exact Bool.false_ne_true), e2]
theorem leapsLeft_ev (r : ByteArray) (hr : r.size ≤ 100) (a : Int) (h1 : -1000 ≤ a) (h2 : a ≤ 1000) : Ev (fun k => impl_leapsLeft.f k r a) (lfT r a (r.size + 2)) := by
  unfold impl_leapsLeft.f
  refine Ev.bind (stand_ev r hr) ?_
  have hlen : (stL r).length ≤ 102 := by
    unfold stL
    have := List.length_filter_le (pl r) (List.range (r.size + 2))
    rw [List.length_range] at this
    omega
  have hc := stL_cons r
  refine evPos ⟨hr, h1, h2, by simp [ints]; omega, by simp [ints, hc], ?_⟩ (evSome ?_)
  · intro x hx
    unfold ints at hx
    obtain ⟨y, hy, rfl⟩ := List.mem_map.1 hx
    have := stL_le r y hy
    omega
  · have e : (ints (stL r)).reverse.map Int.toNat = (stL r).reverse := by
      unfold ints
      rw [← List.map_reverse, List.map_map]
      have : (Int.toNat ∘ fun (x : Nat) => (x : Int)) = id := by funext x; simp
      rw [this, List.map_id]
    rw [e]
    have h := lf_fold r a (r.size + 1) (Nat.le_refl _)
    rw [Nat.sub_self] at h
    unfold stL
    rw [List.range_eq_range']
    simpa using h
/-- The reference's inner loop. -/
theorem rvLeft_l1 (r : ByteArray) (hr : r.size ≤ 100) (a : Int) (h1 : -1000 ≤ a) (h2 : a ≤ 1000) (p : Nat) (hp : p ≤ r.size) (o : List Int) (ho : o.length = r.size + 2) (x : List Int) (e : Nat) : ∀ d : Nat, d + e = lfC r.size a p →
    Ev (fun k => spec_rvLeft.l0 k r a ((r.size : Int) + 1) (lfIn p o (lfC r.size a p)) ((p : Int) - 1)) x → Ev (fun k => spec_rvLeft.l1 k r a ((r.size : Int) + 1) (lfIn p o d) (p : Int) ((p + 1 + d : Nat) : Int)) x := by
  have hlow := fun d (hd : d < lfC r.size a p) => lfC_lt r.size a p d hd
  have hhi := lfC_end r.size a p
  have hC := lfC_le r.size a p
  induction e with
  | zero =>
    intro d hd hx
    obtain rfl : d = lfC r.size a p := by omega
    refine Ev.step (fun k => by rw [spec_rvLeft.l1]) ?_
    rw [w64 (x := (p : Int) + a) (by omega) (by omega)]
    refine evSplit (fun hc => ?_) (fun hc => ?_)
    · refine Ev.step (fun k => by rw [spec_rvLeft.j2]) ?_
      refine evNeg (fun h => hhi ⟨hc, of_decide_eq_true h⟩) ?_
      rw [w64 (x := (p : Int) - 1) (by omega) (by omega)]
      exact hx
    · refine Ev.step (fun k => by rw [spec_rvLeft.j2]) ?_
      refine evNeg (by simp) ?_
      rw [w64 (x := (p : Int) - 1) (by omega) (by omega)]
      exact hx
  | succ e ih =>
    intro d hd hx
    obtain ⟨h3, h4⟩ := hlow d (by omega)
    have h5 := ih (d + 1) (by omega) hx
    have hl : (lfIn p o d).length = r.size + 2 := by rw [lfIn_len]; exact ho
    have hst : lfIn p o (d + 1) = lfStep p (p + 1 + d) (lfIn p o d) := rfl
    unfold lfStep at hst
    refine Ev.step (fun k => by rw [spec_rvLeft.l1]) ?_
    refine evPos h3 ?_
    refine Ev.step (fun k => by rw [spec_rvLeft.j2]) ?_
    rw [w64 (x := (p : Int) + a) (by omega) (by omega)]
    refine evPos (decide_eq_true h4) (evPos (by omega) (evPos (by omega) ?_))
    rw [show wrap64 (((p + 1 + d : Nat) : Int) + 1) = ((p + 1 + (d + 1) : Nat) : Int) from (w64 (by omega) (by omega)).trans (by omega), Int.toNat_natCast]
    refine evSplit (fun c1 => evPos (by omega) (evPos (by omega) (evSplit (fun c2 => ?_) (fun c2 => evSplit (fun c3 => ?_) (fun c3 => ?_))))) (fun c1 => ?_)
    · rw [if_pos ⟨c1, Or.inl c2⟩] at hst
      rw [hst] at h5
      exact h5
    · rw [if_pos ⟨c1, Or.inr c3⟩] at hst
      rw [hst] at h5
      exact h5
    · rw [if_neg (fun h => h.2.elim c2 c3)] at hst
      rw [hst] at h5
      exact h5
    · rw [if_neg (fun h => c1 h.1)] at hst
      rw [hst] at h5
      exact h5
/-- The reference's outer loop: what lies behind is known, what lies ahead is still zero. -/
theorem rvLeft_l0 (r : ByteArray) (hr : r.size ≤ 100) (a : Int) (h1 : -1000 ≤ a) (h2 : a ≤ 1000) : ∀ (p : Nat), p ≤ r.size + 1 →
    Ev (fun k => spec_rvLeft.l0 k r a ((r.size : Int) + 1) (List.replicate p 0 ++ lfT r a (r.size + 2 - p)) ((p : Int) - 1)) (lfT r a (r.size + 2))
 | 0, _ => by
  refine Ev.step (fun k => by rw [spec_rvLeft.l0]) ?_
  exact evNeg (by omega) (evSome (by simp))
 | p + 1, hp => by
  have ih := rvLeft_l0 r hr a h1 h2 p (by omega)
  have hT := lfT_len r a (r.size + 2 - (p + 1))
  have e0 : ((p + 1 : Nat) : Int) - 1 = (p : Int) := by omega
  rw [e0]
  refine Ev.step (fun k => by rw [spec_rvLeft.l0]) ?_
  refine evPos (by omega) (evPos (by omega) (evPos (by rw [List.length_append, List.length_replicate, hT]; omega) ?_))
  refine evBind0 rfl (evBind0 (rvStand_eq r hr p (by omega)) ?_)
  have es : (List.replicate (p + 1) (0 : Int) ++ lfT r a (r.size + 2 - (p + 1))).set ((p : Int)).toNat (-1) = List.replicate p 0 ++ ((-1) :: lfT r a (r.size + 2 - (p + 1))) := by
    rw [replicate_snoc, Int.toNat_natCast, List.set_append_right _ _ (by simp), List.length_replicate, Nat.sub_self]
    rfl
  rw [es]
  have eT : lfT r a (r.size + 2 - p) = if pl r p = true then lfIn 0 ((-1) :: lfT r a (r.size + 2 - (p + 1))) (lfC r.size a p) else (-1) :: lfT r a (r.size + 2 - (p + 1)) := by
    rw [show r.size + 2 - p = (r.size + 2 - (p + 1)) + 1 by omega]
    conv => lhs; unfold lfT
    rw [if_neg (by omega), show r.size + 1 - (r.size + 2 - (p + 1)) = p by omega]
  rw [eT] at ih
  have hw1 : wrap64 ((p : Int) - 1) = (p : Int) - 1 := w64 (by omega) (by omega)
  have hw2 : wrap64 ((p : Int) + 1) = ((p + 1 + 0 : Nat) : Int) := by rw [w64 (by omega) (by omega)]; omega
  cases hs : pl r p with
  | true =>
    rw [if_pos hs] at ih
    refine evPos rfl ?_
    rw [hw2]
    refine rvLeft_l1 r hr a h1 h2 p (by omega) (List.replicate p 0 ++ ((-1) :: lfT r a (r.size + 2 - (p + 1)))) (by rw [List.length_append, List.length_replicate, List.length_cons, hT]; omega) _ (lfC r.size a p) 0 (by omega) ?_
    have h3 := lfIn_right (List.replicate p (0 : Int)) ((-1) :: lfT r a (r.size + 2 - (p + 1))) (lfC r.size a p)
    rw [List.length_replicate] at h3
    rw [h3]
    exact ih
  | false =>
    rw [if_neg (by simp [hs])] at ih
    refine evNeg (by simp) ?_
    rw [hw1]
    exact ih
theorem rvLeft_ev (r : ByteArray) (hr : r.size ≤ 100) (a : Int) (h1 : -1000 ≤ a) (h2 : a ≤ 1000) : Ev (fun k => spec_rvLeft.f k r a) (lfT r a (r.size + 2)) := by
  unfold spec_rvLeft.f
  have e1 : wrap64 ((r.size : Int) + 1) = ((r.size + 1 : Nat) : Int) := by rw [w64 (by omega) (by omega)]; omega
  have e2 : wrap64 (((r.size + 1 : Nat) : Int) + 1) = ((r.size + 2 : Nat) : Int) := by rw [w64 (by omega) (by omega)]; omega
  have e3 : wrap64 (((r.size + 1 : Nat) : Int) - 1) = ((r.size + 1 : Nat) : Int) - 1 := w64 (by omega) (by omega)
  rw [e1, e2, e3, Int.toNat_natCast]
  refine evPos (by omega) (evPos (by omega) ?_)
  have h := rvLeft_l0 r hr a h1 h2 (r.size + 1) (Nat.le_refl _)
  have e4 : lfT r a (r.size + 2 - (r.size + 1)) = [0] := by rw [show r.size + 2 - (r.size + 1) = 1 by omega]; simp [lfT]
  have e5 : List.replicate (r.size + 1) (0 : Int) ++ [0] = List.replicate (r.size + 2) 0 := by rw [List.replicate_succ' (n := r.size + 1)]
  rw [e4, e5] at h
  exact h
end Go.Proofs.Ytonifgfgeollaaa.X
end
section
/- How many crossings there are by leaps: the program and the reference. -/
--! needs LBase LGap spec_rvStand spec_l1Most spec_l1Least spec_rvCount impl_stand impl_countBy impl_sum spec_pzValue
namespace Go.Proofs.Ytonifgfgeollaaa.X
open Go.Proofs.Ytonifgfgeollaaa.Sq Go.RowKit Go.Proofs.YtonifgfgeollaaaW.PrintWords Go.Proofs.YtonifgfgeollaaaW.PrintLast Go.Proofs.YtonifgfgeollaaaW.PrintMore
attribute [local go_sem] max2_int min2_int max_two min_two max_three min_three max_four min_four   -- for this text's walks alone
set_option linter.unusedVariables false
set_option linter.unusedSimpArgs false
def adF (f g : Nat → Int) : Nat → Int
 | 0 => f 0
 | k + 1 => mn (wrap64 (f (k + 1) + g k)) 1000000000000001
def adP (f g : Nat → Int) (j : Nat) : Nat → Int := fun i => if 1 ≤ i ∧ i ≤ j then adF f g i else f i
def rowOf (W : Nat) (f : Nat → Int) : List Int := (List.range W).map f
def upd (G : Nat → Nat → Int) (p : Nat) (f : Nat → Int) : Nat → Nat → Int := fun q => if q = p then f else G q
/-- N rows of width W, those from b on not made yet. -/
def RB (W N b : Nat) (G : Nat → Nat → Int) : List (List Int) := (List.range N).map fun q => if q < b then rowOf W (G q) else []
theorem adP_zero (f g : Nat → Int) : adP f g 0 = f := by
  funext i
  unfold adP
  rw [if_neg (by omega)]
theorem adP_next (f g : Nat → Int) (j : Nat) : adP f g j (j + 1) = f (j + 1) := by
  unfold adP
  rw [if_neg (by omega)]
theorem rowOf_len (W : Nat) (f : Nat → Int) : (rowOf W f).length = W := by simp [rowOf]
theorem rd_rowOf (W : Nat) (f : Nat → Int) (i : Nat) (h : i < W) : rd (rowOf W f) (i : Int) = f i := by
  unfold rd rowOf
  rw [Int.toNat_natCast]
  exact getD_range_map f W i 0 h
theorem rowOf_congr (W : Nat) (f g : Nat → Int) (h : ∀ i, i < W → f i = g i) : rowOf W f = rowOf W g := by
  unfold rowOf
  exact List.map_congr_left (fun i hi => h i (List.mem_range.1 hi))
theorem rowOf_full (W : Nat) (f g : Nat → Int) : rowOf (W + 1) (adP f g W) = rowOf (W + 1) (adF f g) := by
  refine rowOf_congr _ _ _ (fun i hi => ?_)
  unfold adP
  split
  · rfl
  · obtain rfl : i = 0 := by omega
    rfl
theorem map_range_set {α : Type} (f g : Nat → α) (N p : Nat) (h : ∀ q, q < N → q ≠ p → f q = g q) : ((List.range N).map f).set p (g p) = (List.range N).map g := by
  apply List.ext_getElem
  · simp
  · intro i h1 h2
    have hi : i < N := by simpa using h2
    rw [List.getElem_set]
    split
    · rename_i e; subst e; simp
    · rename_i e
      simp only [List.getElem_map, List.getElem_range]
      exact h i hi (fun e' => e e'.symm)
theorem rowOf_set (W : Nat) (f g : Nat → Int) (j : Nat) : (rowOf W (adP f g j)).set (j + 1) (adF f g (j + 1)) = rowOf W (adP f g (j + 1)) := by
  have h := map_range_set (adP f g j) (adP f g (j + 1)) W (j + 1) (fun q _ hq => by
    unfold adP
    by_cases h : 1 ≤ q ∧ q ≤ j
    · rw [if_pos h, if_pos (by omega)]
    · rw [if_neg h, if_neg (by omega)])
  have e : adP f g (j + 1) (j + 1) = adF f g (j + 1) := by unfold adP; rw [if_pos (by omega)]
  rw [e] at h
  exact h
theorem rowOf_take (W V : Nat) (f : Nat → Int) (h : V ≤ W) : (rowOf W f).take V = rowOf V f := by
  unfold rowOf
  rw [← List.map_take, List.take_range, Nat.min_eq_left h]
theorem RB_len (W N b : Nat) (G : Nat → Nat → Int) : (RB W N b G).length = N := by simp [RB]
theorem RB_get (W N b : Nat) (G : Nat → Nat → Int) (p : Nat) (h : p < b) (hN : p < N) : rd_L3 (RB W N b G) (p : Int) = rowOf W (G p) := by
  unfold rd_L3 RB
  rw [Int.toNat_natCast, getD_range_map _ _ _ _ hN, if_pos h]
theorem RB_set (W N b : Nat) (G : Nat → Nat → Int) (p : Nat) (f : Nat → Int) (h : p < b) : (RB W N b G).set p (rowOf W f) = RB W N b (upd G p f) := by
  have h2 := map_range_set (fun q => if q < b then rowOf W (G q) else []) (fun q => if q < b then rowOf W (upd G p f q) else []) N p (fun q _ hq => by
    show (if q < b then rowOf W (G q) else []) = if q < b then rowOf W (upd G p f q) else []
    unfold upd
    rw [if_neg hq])
  have e : (if p < b then rowOf W (upd G p f p) else []) = rowOf W f := by
    rw [if_pos h]
    unfold upd
    rw [if_pos rfl]
  rw [e] at h2
  exact h2
theorem upd_upd (G : Nat → Nat → Int) (p : Nat) (f g : Nat → Int) : upd (upd G p f) p g = upd G p g := by
  funext q
  unfold upd
  split <;> rfl
theorem upd_at (G : Nat → Nat → Int) (p : Nat) (f : Nat → Int) : upd G p f p = f := by
  unfold upd
  rw [if_pos rfl]
theorem upd_ne (G : Nat → Nat → Int) (p q : Nat) (f : Nat → Int) (h : q ≠ p) : upd G p f q = G q := by
  unfold upd
  rw [if_neg h]
theorem upd_self (G : Nat → Nat → Int) (p : Nat) : upd G p (G p) = G := by
  funext q
  unfold upd
  split
  · rename_i h; rw [h]
  · rfl
theorem RB_row_congr (W N b : Nat) (G : Nat → Nat → Int) (p : Nat) (f g : Nat → Int) (h : rowOf W f = rowOf W g) : RB W N b (upd G p f) = RB W N b (upd G p g) := by
  unfold RB
  refine List.map_congr_left (fun q _ => ?_)
  show (if q < b then rowOf W (upd G p f q) else []) = if q < b then rowOf W (upd G p g q) else []
  unfold upd
  split
  · split
    · exact h
    · rfl
  · rfl
def accF (G : Nat → Nat → Int) (f : Nat → Int) : Nat → Nat → Nat → Int
 | _, 0 => f
 | b, e + 1 => accF G (adF f (G b)) (b + 1) e
def loP (a : Int) (p : Nat) : Nat := (mx 0 ((p : Int) - a)).toNat
def stepG (a : Int) (G : Nat → Nat → Int) (p : Nat) : Nat → Nat → Int := upd G p (accF G (G p) (loP a p) (p - loP a p))
theorem loP_le (a : Int) (p : Nat) (ha : 0 ≤ a) : loP a p ≤ p ∧ ((loP a p : Nat) : Int) = mx 0 ((p : Int) - a) := by
  unfold loP mx
  split <;> omega
theorem i1 (x : Nat) (h : x ≤ 1000) : wrap64 ((x : Int) + 1) = ((x + 1 : Nat) : Int) := (w64 (by omega) (by omega)).trans (by omega)
theorem mn_lit (x y : Int) : (if x < y then x else y) = mn x y := by unfold mn; split <;> split <;> omega
theorem least_eq (x y : Int) : spec_l1Least.f x y = some (mn x y) := by
  unfold spec_l1Least.f
  rw [← mn_lit]
  split <;> rfl
theorem most_eq (x y : Int) : spec_l1Most.f x y = some (mx x y) := by
  unfold spec_l1Most.f mx
  split <;> split <;> first | rfl | (congr 1; omega)
theorem cb_l3 (a x5 : Int) (N : Nat) (G : Nat → Nat → Int) (nx fr : Nat) (hnx : nx < N) (f g : Nat → Int) (L : List Int) (m x : Int) (res : List Int) (e : Nat) : ∀ j : Nat, j + e = 41 →
    Ev (fun k => impl_countBy.l2 k a x5 (RB 42 N N (upd G nx (adF f g))) (nx : Int) (wrap64 ((fr : Int) + 1)) L m x) res →
    Ev (fun k => impl_countBy.l3 k a x5 (RB 42 N N (upd G nx (adP f g j))) (nx : Int) (fr : Int) L m x (rowOf 41 g) 41 (j : Int)) res := by
  induction e with
  | zero =>
    intro j hj h
    obtain rfl : j = 41 := by omega
    refine Ev.step (fun k => by rw [impl_countBy.l3]) ?_
    refine evNeg (by omega) ?_
    rw [RB_row_congr 42 N N G nx _ _ (rowOf_full 41 f g)]
    exact h
  | succ e ih =>
    intro j hj h
    have h2 := ih (j + 1) (by omega) h
    refine Ev.step (fun k => by rw [impl_countBy.l3]) ?_
    rw [i1 j (by omega), Int.toNat_natCast, Int.toNat_natCast, RB_get 42 N N _ nx hnx hnx, upd_at, rd_rowOf 42 _ (j + 1) (by omega), rd_rowOf 41 g j (by omega), adP_next]
    refine evPos (by omega) (evPos (by omega) (evPos (by rw [rowOf_len]; omega) (evPos (by omega) (evPos (by rw [RB_len]; omega) (evPos (by omega) (evPos (by rw [rowOf_len]; omega) ?_))))))
    have e1 : (rowOf 42 (adP f g j)).set (j + 1) (mn (wrap64 (f (j + 1) + g j)) 1000000000000001) = rowOf 42 (adP f g (j + 1)) := rowOf_set 42 f g j
    rw [e1, RB_set 42 N N _ nx _ hnx, upd_upd]
    exact h2
theorem cb_l2 (a x5 : Int) (N : Nat) (hN : N ≤ 1000) (G : Nat → Nat → Int) (nx : Nat) (hnx : nx < N) (L : List Int) (m x : Int) (res : List Int) (e : Nat) : ∀ (b : Nat) (f : Nat → Int), b + e = nx →
    Ev (fun k => impl_countBy.l1 k a x5 (RB 42 N N (upd G nx (accF G f b e))) L m (wrap64 (x + 1))) res →
    Ev (fun k => impl_countBy.l2 k a x5 (RB 42 N N (upd G nx f)) (nx : Int) (b : Int) L m x) res := by
  induction e with
  | zero =>
    intro b f hb h
    refine Ev.step (fun k => by rw [impl_countBy.l2]) ?_
    exact evNeg (by omega) h
  | succ e ih =>
    intro b f hb h
    refine Ev.step (fun k => by rw [impl_countBy.l2]) ?_
    rw [RB_get 42 N N _ b (by omega) (by omega), upd_ne G nx b f (by omega), rowOf_take 42 41 _ (by omega)]
    refine evPos (by omega) (evPos (by omega) (evPos (by rw [RB_len]; omega) (evPos (by rw [rowOf_len]; omega) (evBind0 rfl ?_))))
    rw [rowOf_len]
    have h3 := cb_l3 a x5 N G nx b hnx f (G b) L m x res 41 0 (by omega) (by
      rw [i1 b (by omega)]
      exact ih (b + 1) (adF f (G b)) (by omega) h)
    rw [adP_zero] at h3
    exact h3
theorem cb_l1 (a : Int) (ha : 1 ≤ a) (ha2 : a ≤ 1000) (n : Nat) (hn : n ≤ 40) (L : List Nat) (hL : ∀ x ∈ L, x ≤ n + 1) (hl : L.length ≤ 500) (e : Nat) : ∀ (i : Nat) (G : Nat → Nat → Int), i + e = L.length →
    Ev (fun k => impl_countBy.l1 k a ((n + 1 : Nat) : Int) (RB 42 (n + 2) (n + 2) G) (ints L) (L.length : Int) (i : Int)) (rowOf 42 ((L.drop i).foldl (stepG a) G (n + 1))) := by
  have hil : (ints L).length = L.length := by simp [ints]
  induction e with
  | zero =>
    intro i G hi
    refine Ev.step (fun k => by rw [impl_countBy.l1]) ?_
    refine evNeg (by omega) (evPos (by omega) (evPos (by rw [RB_len]; omega) (evSome ?_)))
    rw [RB_get _ _ _ _ (n + 1) (by omega) (by omega), List.drop_of_length_le (by omega)]
    rfl
  | succ e ih =>
    intro i G hi
    refine Ev.step (fun k => by rw [impl_countBy.l1]) ?_
    have hx : L.getD i 0 ≤ n + 1 := by
      rw [← getElem_getD L i 0 (by omega)]
      exact hL _ (List.getElem_mem (by omega))
    rw [rd_ints L i (by omega), w64 (x := ((L.getD i 0 : Nat) : Int) - a) (by omega) (by omega)]
    refine evPos (by omega) (evPos (by omega) (evPos (by rw [hil]; omega) ?_))
    obtain ⟨h1, h2⟩ := loP_le a (L.getD i 0) (by omega)
    rw [← h2]
    have h3 := cb_l2 a ((n + 1 : Nat) : Int) (n + 2) (by omega) G (L.getD i 0) (by omega) (ints L) (L.length : Int) (i : Int) _ (L.getD i 0 - loP a (L.getD i 0)) (loP a (L.getD i 0)) (G (L.getD i 0)) (by omega) (by
      rw [i1 i (by omega)]
      exact ih (i + 1) (stepG a G (L.getD i 0)) (by omega))
    rw [upd_self] at h3
    rw [getD_drop_cons L i 0 (by omega)]
    exact h3
def zeroF : Nat → Int := fun _ => 0
def startG : Nat → Nat → Int := upd (fun _ => zeroF) 0 (fun k => if k = 0 then 1 else 0)
theorem rowOf_zero (W : Nat) : rowOf W zeroF = List.replicate W 0 := by
  unfold rowOf zeroF
  rw [List.map_const', List.length_range]
theorem rowOf_one (W : Nat) : (List.replicate (W + 1) (0 : Int)).set 0 1 = rowOf (W + 1) (fun k => if k = 0 then 1 else 0) := by
  rw [← rowOf_zero]
  have h := map_range_set zeroF (fun k => if k = 0 then (1 : Int) else 0) (W + 1) 0 (fun q _ hq => by show (0 : Int) = _; rw [if_neg hq])
  exact h
theorem RB_next (W N b : Nat) (G : Nat → Nat → Int) (h : b < N) : (RB W N b G).set b (rowOf W (G b)) = RB W N (b + 1) G := by
  have h2 := map_range_set (fun q => if q < b then rowOf W (G q) else []) (fun q => if q < b + 1 then rowOf W (G q) else []) N b (fun q _ hq => by
    show (if q < b then rowOf W (G q) else []) = if q < b + 1 then rowOf W (G q) else []
    by_cases h : q < b
    · rw [if_pos h, if_pos (by omega)]
    · rw [if_neg h, if_neg (by omega)])
  have e : (if b < b + 1 then rowOf W (G b) else []) = rowOf W (G b) := if_pos (by omega)
  rw [e] at h2
  exact h2
theorem cb_l0 (r : ByteArray) (hr : r.size ≤ 40) (a : Int) (res : List Int) (e : Nat) : ∀ i : Nat, i + e = r.size + 2 →
    Ev (fun k => impl_countBy.l0 k r a ((r.size + 1 : Nat) : Int) (RB 42 (r.size + 2) (r.size + 2) (fun _ => zeroF)) ((r.size + 2 : Nat) : Int) ((r.size + 2 : Nat) : Int)) res →
    Ev (fun k => impl_countBy.l0 k r a ((r.size + 1 : Nat) : Int) (RB 42 (r.size + 2) i (fun _ => zeroF)) ((r.size + 2 : Nat) : Int) (i : Int)) res := by
  induction e with
  | zero =>
    intro i hi h
    obtain rfl : i = r.size + 2 := by omega
    exact h
  | succ e ih =>
    intro i hi h
    refine Ev.step (fun k => by rw [impl_countBy.l0]) ?_
    refine evPos (by omega) (evPos (by omega) (evPos (by omega) (evPos (by rw [RB_len]; omega) ?_)))
    rw [i1 i (by omega), Int.toNat_natCast, ← rowOf_zero]
    have h2 := RB_next 42 (r.size + 2) i (fun _ => zeroF) (by omega)
    have h3 := ih (i + 1) (by omega) h
    rw [← h2] at h3
    exact h3
theorem RB_none (W N : Nat) (G : Nat → Nat → Int) : RB W N 0 G = List.replicate N [] := by
  unfold RB
  have : (fun q => if q < 0 then rowOf W (G q) else []) = fun _ => [] := by funext q; rw [if_neg (by omega)]
  rw [this, List.map_const', List.length_range]
/-- The ways to the far bank, by leaps. -/
def waysF (r : ByteArray) (a : Int) : Nat → Int := ((List.range' 1 (r.size + 1)).filter (pl r)).foldl (stepG a) startG (r.size + 1)
theorem countBy_ev (r : ByteArray) (hr : r.size ≤ 40) (a : Int) (ha : 1 ≤ a) (ha2 : a ≤ 1000) : Ev (fun k => impl_countBy.f k r a) (rowOf 42 (waysF r a)) := by
  unfold impl_countBy.f
  rw [i1 r.size (by omega), i1 (r.size + 1) (by omega), Int.toNat_natCast]
  refine evPos (by omega) (evPos (by omega) (evBind0 rfl ?_))
  rw [List.length_replicate, ← RB_none 42 (r.size + 2) (fun _ => zeroF)]
  refine cb_l0 r hr a _ (r.size + 2) 0 (by omega) ?_
  refine Ev.step (fun k => by rw [impl_countBy.l0]) ?_
  have hg := RB_get 42 (r.size + 2) (r.size + 2) (fun _ => zeroF) 0 (by omega) (by omega)
  have hg' : rd_L3 (RB 42 (r.size + 2) (r.size + 2) fun _ => zeroF) 0 = rowOf 42 zeroF := hg
  refine evNeg (by omega) (evPos (by rw [RB_len]; omega) (evPos (by rw [hg', rowOf_len]; omega) (Ev.bind (stand_ev r (by omega)) ?_)))
  have hc := stL_cons r
  refine evPos (by rw [hc]; simp [ints]; omega) (evBind0 rfl ?_)
  have hset : (RB 42 (r.size + 2) (r.size + 2) (fun _ => zeroF)).set (0 : Int).toNat ((rd_L3 (RB 42 (r.size + 2) (r.size + 2) fun _ => zeroF) 0).set (0 : Int).toNat 1) = RB 42 (r.size + 2) (r.size + 2) startG := by
    rw [hg', rowOf_zero]
    show List.set _ 0 (List.set (List.replicate (41 + 1) 0) 0 1) = _
    rw [rowOf_one 41]
    exact RB_set 42 (r.size + 2) (r.size + 2) (fun _ => zeroF) 0 _ (by omega)
  rw [hset]
  have hd : (ints (stL r)).drop 1 = ints ((List.range' 1 (r.size + 1)).filter (pl r)) := by rw [hc]; rfl
  rw [hd]
  have hlen : ((List.range' 1 (r.size + 1)).filter (pl r)).length ≤ 41 := by
    have := List.length_filter_le (pl r) (List.range' 1 (r.size + 1))
    rw [List.length_range'] at this
    omega
  have h := cb_l1 a ha ha2 r.size hr ((List.range' 1 (r.size + 1)).filter (pl r)) (fun x hx => by
    have := List.mem_range'_1.1 (List.mem_filter.1 hx).1
    omega) (by omega) ((List.range' 1 (r.size + 1)).filter (pl r)).length 0 startG (by omega)
  rw [List.drop_zero] at h
  have hil : (ints ((List.range' 1 (r.size + 1)).filter (pl r))).length = ((List.range' 1 (r.size + 1)).filter (pl r)).length := by simp [ints]
  rw [hil]
  exact h
theorem rc_l2 (r : ByteArray) (a : Int) (n N b0 : Nat) (hb0 : b0 ≤ N) (hn : n ≤ 100) (G : Nat → Nat → Int) (nx fr : Nat) (hnx : nx < b0) (f g : Nat → Int) (y z : Int) (res : List Int) (e : Nat) : ∀ j : Nat, j + e = n + 1 →
    Ev (fun k => spec_rvCount.l1 k r a ((n + 1 : Nat) : Int) (RB (n + 2) N b0 (upd G nx (adF f g))) (nx : Int) (wrap64 ((fr : Int) + 1)) y z) res →
    Ev (fun k => spec_rvCount.l2 k r a ((n + 1 : Nat) : Int) (RB (n + 2) N b0 (upd G nx (adP f g j))) (nx : Int) (fr : Int) y z (rowOf (n + 1) g) ((n + 1 : Nat) : Int) (j : Int)) res := by
  induction e with
  | zero =>
    intro j hj h
    obtain rfl : j = n + 1 := by omega
    refine Ev.step (fun k => by rw [spec_rvCount.l2]) ?_
    refine evNeg (by omega) ?_
    rw [RB_row_congr (n + 2) N b0 G nx _ _ (rowOf_full (n + 1) f g)]
    exact h
  | succ e ih =>
    intro j hj h
    have h2 := ih (j + 1) (by omega) h
    refine Ev.step (fun k => by rw [spec_rvCount.l2]) ?_
    rw [i1 j (by omega), Int.toNat_natCast, Int.toNat_natCast, RB_get (n + 2) N b0 _ nx hnx (by omega), upd_at, rd_rowOf (n + 2) _ (j + 1) (by omega), rd_rowOf (n + 1) g j (by omega), adP_next]
    refine evPos (by omega) (evPos (by omega) (evPos (by rw [rowOf_len]; omega) (evPos (by omega) (evPos (by rw [RB_len]; omega) (evPos (by omega) (evPos (by rw [rowOf_len]; omega) (evBind0 (least_eq _ _) ?_)))))))
    have e1 : (rowOf (n + 2) (adP f g j)).set (j + 1) (mn (wrap64 (f (j + 1) + g j)) 1000000000000001) = rowOf (n + 2) (adP f g (j + 1)) := rowOf_set (n + 2) f g j
    rw [e1, RB_set (n + 2) N b0 _ nx _ hnx, upd_upd]
    exact h2
theorem rc_l1 (r : ByteArray) (a : Int) (n N b0 : Nat) (hb0 : b0 ≤ N) (hN : N ≤ 1000) (hn : n ≤ 100) (G : Nat → Nat → Int) (nx : Nat) (hnx : nx < b0) (y z : Int) (res : List Int) (e : Nat) : ∀ (b : Nat) (f : Nat → Int), b + e = nx →
    Ev (fun k => spec_rvCount.l0 k r a ((n + 1 : Nat) : Int) (RB (n + 2) N b0 (upd G nx (accF G f b e))) y (wrap64 (z + 1))) res →
    Ev (fun k => spec_rvCount.l1 k r a ((n + 1 : Nat) : Int) (RB (n + 2) N b0 (upd G nx f)) (nx : Int) (b : Int) y z) res := by
  induction e with
  | zero =>
    intro b f hb h
    refine Ev.step (fun k => by rw [spec_rvCount.l1]) ?_
    exact evNeg (by omega) h
  | succ e ih =>
    intro b f hb h
    refine Ev.step (fun k => by rw [spec_rvCount.l1]) ?_
    rw [RB_get (n + 2) N b0 _ b (by omega) (by omega), upd_ne G nx b f (by omega), Int.toNat_natCast, rowOf_take (n + 2) (n + 1) _ (by omega)]
    refine evPos (by omega) (evPos (by omega) (evPos (by rw [RB_len]; omega) (evPos (by omega) (evPos (by rw [rowOf_len]; omega) (evBind0 rfl ?_)))))
    rw [rowOf_len]
    have h3 := rc_l2 r a n N b0 hb0 hn G nx b hnx f (G b) y z res (n + 1) 0 (by omega) (by
      rw [i1 b (by omega)]
      exact ih (b + 1) (adF f (G b)) (by omega) h)
    rw [adP_zero] at h3
    exact h3
theorem rc_j1 (r : ByteArray) (hr : r.size ≤ 40) (a : Int) (ha : 1 ≤ a) (ha2 : a ≤ 1000) (G : Nat → Nat → Int) (p : Nat) (hp : p ≤ r.size + 1) (res : List Int)
    (h1 : pl r p = true → Ev (fun k => spec_rvCount.l0 k r a ((r.size + 1 : Nat) : Int) (RB (r.size + 2) (r.size + 2) (p + 1) (stepG a G p)) ((r.size + 2 : Nat) : Int) ((p + 1 : Nat) : Int)) res)
    (h2 : pl r p = false → Ev (fun k => spec_rvCount.l0 k r a ((r.size + 1 : Nat) : Int) (RB (r.size + 2) (r.size + 2) (p + 1) G) ((r.size + 2 : Nat) : Int) ((p + 1 : Nat) : Int)) res) :
    Ev (fun k => spec_rvCount.j1 k r a ((r.size + 1 : Nat) : Int) (RB (r.size + 2) (r.size + 2) (p + 1) G) (p : Int) ((r.size + 2 : Nat) : Int) (p : Int)) res := by
  refine Ev.step (fun k => by rw [spec_rvCount.j1]) ?_
  refine evBind0 (rvStand_eq r (by omega) p hp) ?_
  cases hs : pl r p with
  | true =>
    refine evPos rfl (evBind0 (most_eq _ _) ?_)
    rw [w64 (x := (p : Int) - a) (by omega) (by omega)]
    obtain ⟨h3, h4⟩ := loP_le a p (by omega)
    rw [← h4]
    have h5 := rc_l1 r a r.size (r.size + 2) (p + 1) (by omega) (by omega) (by omega) G p (by omega) ((r.size + 2 : Nat) : Int) (p : Int) res (p - loP a p) (loP a p) (G p) (by omega) (by
      rw [i1 p (by omega)]
      exact h1 hs)
    rw [upd_self] at h5
    exact h5
  | false =>
    refine evNeg (by simp) ?_
    rw [i1 p (by omega)]
    exact h2 hs
theorem stepG_ne (a : Int) (G : Nat → Nat → Int) (p q : Nat) (h : q ≠ p) : stepG a G p q = G q := upd_ne _ _ _ _ h
theorem rc_l0 (r : ByteArray) (hr : r.size ≤ 40) (a : Int) (ha : 1 ≤ a) (ha2 : a ≤ 1000) (e : Nat) : ∀ (p : Nat) (G : Nat → Nat → Int), 1 ≤ p → p + e = r.size + 2 → (∀ q, p ≤ q → G q = zeroF) →
    Ev (fun k => spec_rvCount.l0 k r a ((r.size + 1 : Nat) : Int) (RB (r.size + 2) (r.size + 2) p G) ((r.size + 2 : Nat) : Int) (p : Int)) (rowOf (r.size + 2) (((List.range' p e).filter (pl r)).foldl (stepG a) G (r.size + 1))) := by
  induction e with
  | zero =>
    intro p G h1 hp hz
    refine Ev.step (fun k => by rw [spec_rvCount.l0]) ?_
    refine evNeg (by omega) (evPos (by omega) (evPos (by rw [RB_len]; omega) (evSome ?_)))
    exact RB_get _ _ _ _ (r.size + 1) (by omega) (by omega)
  | succ e ih =>
    intro p G h1 hp hz
    refine Ev.step (fun k => by rw [spec_rvCount.l0]) ?_
    rw [i1 (r.size + 1) (by omega), Int.toNat_natCast, Int.toNat_natCast]
    refine evPos (by omega) (evPos (by omega) (evPos (by omega) (evPos (by omega) (evPos (by rw [RB_len]; omega) (evBind0 rfl (evNeg (by omega) ?_))))))
    have e1 := RB_next (r.size + 2) (r.size + 2) p G (by omega)
    rw [hz p (Nat.le_refl _), rowOf_zero] at e1
    rw [e1, List.range'_succ]
    refine rc_j1 r hr a ha ha2 G p (by omega) _ (fun hs => ?_) (fun hs => ?_)
    · rw [List.filter_cons_of_pos hs]
      exact ih (p + 1) (stepG a G p) (by omega) (by omega) (fun q hq => by rw [stepG_ne a G p q (by omega)]; exact hz q (by omega))
    · rw [List.filter_cons_of_neg (by rw [hs]; exact Bool.false_ne_true)]
      exact ih (p + 1) G (by omega) (by omega) (fun q hq => hz q (by omega))
theorem rvCount_ev (r : ByteArray) (hr : r.size ≤ 40) (a : Int) (ha : 1 ≤ a) (ha2 : a ≤ 1000) : Ev (fun k => spec_rvCount.f k r a) (rowOf (r.size + 2) (waysF r a)) := by
  unfold spec_rvCount.f
  rw [i1 r.size (by omega), i1 (r.size + 1) (by omega), Int.toNat_natCast]
  refine evPos (by omega) (evPos (by omega) (evBind0 rfl ?_))
  rw [List.length_replicate]
  refine Ev.step (fun k => by rw [spec_rvCount.l0]) ?_
  rw [i1 (r.size + 1) (by omega), Int.toNat_natCast]
  refine evPos (by omega) (evPos (by omega) (evPos (by omega) (evPos (by omega) (evPos (by simp; omega) (evBind0 rfl (evPos rfl ?_))))))
  have e0 : (List.replicate (r.size + 2) ([] : List Int)).set (0 : Int).toNat (List.replicate (r.size + 1 + 1) 0) = RB (r.size + 2) (r.size + 2) (0 + 1) (fun _ => zeroF) := by
    have h := RB_next (r.size + 2) (r.size + 2) 0 (fun _ => zeroF) (by omega)
    rw [RB_none, rowOf_zero] at h
    exact h
  rw [e0]
  have hg : rd_L3 (RB (r.size + 2) (r.size + 2) (0 + 1) fun _ => zeroF) 0 = rowOf (r.size + 2) zeroF := RB_get (r.size + 2) (r.size + 2) (0 + 1) (fun _ => zeroF) 0 (by omega) (by omega)
  refine evPos (by rw [hg, rowOf_len]; omega) ?_
  have e1 : (RB (r.size + 2) (r.size + 2) (0 + 1) (fun _ => zeroF)).set (0 : Int).toNat ((rd_L3 (RB (r.size + 2) (r.size + 2) (0 + 1) fun _ => zeroF) 0).set (0 : Int).toNat 1) = RB (r.size + 2) (r.size + 2) (0 + 1) startG := by
    rw [hg, rowOf_zero]
    show List.set _ 0 (List.set (List.replicate (r.size + 1 + 1) 0) 0 1) = _
    rw [rowOf_one (r.size + 1)]
    exact RB_set (r.size + 2) (r.size + 2) (0 + 1) (fun _ => zeroF) 0 _ (by omega)
  rw [e1]
  have hz : ∀ q, 1 ≤ q → startG q = zeroF := fun q hq => upd_ne _ _ _ _ (by omega)
  have hst : stepG a startG 0 = startG := by
    unfold stepG
    rw [show 0 - loP a 0 = 0 by omega]
    exact upd_self startG 0
  have hfin := rc_l0 r hr a ha ha2 (r.size + 1) 1 startG (by omega) (by omega) hz
  refine rc_j1 r hr a ha ha2 startG 0 (by omega) _ (fun _ => ?_) (fun hs => ?_)
  · rw [hst]
    exact hfin
  · exact absurd hs (by simp [pl])
/-! ### The sum -/
def wsum (s : Int) (L : List Int) : Int := L.foldl (fun s x => wrap64 (s + x)) s
theorem wrap_wrap (x : Int) : wrap64 (wrap64 x + 0) = wrap64 x := by
  unfold wrap64
  omega
theorem wsum_zeros (x : Int) : ∀ n, wsum (wrap64 x) (List.replicate n 0) = wrap64 x
 | 0 => rfl
 | n + 1 => by
  show wsum (wrap64 (wrap64 x + 0)) (List.replicate n 0) = _
  rw [wrap_wrap]
  exact wsum_zeros x n
theorem wsum_more (L : List Int) (n : Nat) (h : L ≠ []) (s : Int) : wsum s (L ++ List.replicate n 0) = wsum s L := by
  unfold wsum
  rw [List.foldl_append]
  obtain ⟨M, y, rfl⟩ : ∃ M y, L = M ++ [y] := ⟨L.dropLast, L.getLast h, (List.dropLast_concat_getLast h).symm⟩
  rw [List.foldl_append]
  exact wsum_zeros _ n
theorem sum_l0 (L : List Int) (hl : L.length ≤ 1000) (e : Nat) : ∀ (i : Nat) (s : Int), i + e = L.length → Ev (fun k => impl_sum.l0 k s L (L.length : Int) (i : Int)) (wsum s (L.drop i)) := by
  induction e with
  | zero =>
    intro i s hi
    refine Ev.step (fun k => by rw [impl_sum.l0]) ?_
    refine evNeg (by omega) (evSome ?_)
    rw [List.drop_of_length_le (by omega)]
    rfl
  | succ e ih =>
    intro i s hi
    refine Ev.step (fun k => by rw [impl_sum.l0]) ?_
    rw [i1 i (by omega), getD_drop_cons L i 0 (by omega)]
    refine evPos (by omega) (evPos (by omega) (evPos (by omega) ?_))
    have h := ih (i + 1) (wrap64 (s + L.getD i 0)) (by omega)
    unfold rd
    rw [Int.toNat_natCast]
    exact h
theorem sum_ev (L : List Int) (hl : L.length ≤ 1000) : Ev (fun k => impl_sum.f k L) (wsum 0 L) := by
  unfold impl_sum.f
  exact sum_l0 L hl L.length 0 0 (by omega)
theorem value_l1 (L : List Int) (hl : L.length ≤ 1000) (e : Nat) : ∀ (i : Nat) (s : Int), i + e = L.length → Ev (fun k => spec_pzValue.l1 k s L (L.length : Int) (i : Int)) (wsum s (L.drop i)) := by
  induction e with
  | zero =>
    intro i s hi
    refine Ev.step (fun k => by rw [spec_pzValue.l1]) ?_
    refine evNeg (by omega) (evSome ?_)
    rw [List.drop_of_length_le (by omega)]
    rfl
  | succ e ih =>
    intro i s hi
    refine Ev.step (fun k => by rw [spec_pzValue.l1]) ?_
    rw [i1 i (by omega), getD_drop_cons L i 0 (by omega)]
    refine evPos (by omega) (evPos (by omega) (evPos (by omega) ?_))
    have h := ih (i + 1) (wrap64 (s + L.getD i 0)) (by omega)
    unfold rd
    rw [Int.toNat_natCast]
    exact h
/-! ### No crossing has more leaps than places -/
def thin (G : Nat → Nat → Int) : Prop := ∀ q k, q < k → G q k = 0
theorem accF_thin (G : Nat → Nat → Int) (h : thin G) (p : Nat) (e : Nat) : ∀ (b : Nat) (f : Nat → Int), b + e ≤ p → (∀ k, p < k → f k = 0) → ∀ k, p < k → accF G f b e k = 0 := by
  induction e with
  | zero => exact fun b f _ hf => hf
  | succ e ih =>
    intro b f hb hf
    refine ih (b + 1) _ (by omega) (fun k hk => ?_)
    obtain ⟨j, rfl⟩ : ∃ j, k = j + 1 := ⟨k - 1, by omega⟩
    show mn (wrap64 (f (j + 1) + G b j)) 1000000000000001 = 0
    rw [hf _ hk, h b j (by omega)]
    decide +kernel
theorem stepG_thin (a : Int) (ha : 0 ≤ a) (G : Nat → Nat → Int) (p : Nat) (h : thin G) : thin (stepG a G p) := by
  intro q k hk
  unfold stepG upd
  split
  · rename_i e
    subst e
    have := (loP_le a q ha).1
    exact accF_thin G h q _ _ _ (by omega) (fun k hk => h q k hk) k hk
  · exact h q k hk
theorem startG_thin : thin startG := by
  intro q k hk
  unfold startG upd
  split
  · show (if k = 0 then (1 : Int) else 0) = 0
    rw [if_neg (by omega)]
  · rfl
theorem fold_thin (a : Int) (ha : 0 ≤ a) : ∀ (L : List Nat) (G : Nat → Nat → Int), thin G → thin (L.foldl (stepG a) G)
 | [], G, h => h
 | p :: L, G, h => fold_thin a ha L _ (stepG_thin a ha G p h)
theorem ways_sum (r : ByteArray) (hr : r.size ≤ 40) (a : Int) (ha : 1 ≤ a) : wsum 0 (rowOf 42 (waysF r a)) = wsum 0 (rowOf (r.size + 2) (waysF r a)) := by
  have hz : ∀ k, r.size + 1 < k → waysF r a k = 0 := fun k hk => fold_thin a (by omega) _ _ startG_thin _ _ hk
  have h : rowOf 42 (waysF r a) = rowOf (r.size + 2) (waysF r a) ++ List.replicate (40 - r.size) 0 := by
    unfold rowOf
    apply List.ext_getElem
    · simp; omega
    · intro i h1 h2
      have hi : i < 42 := by simpa using h1
      by_cases hi2 : i < r.size + 2
      · rw [List.getElem_append_left (by simpa using hi2)]
        simp
      · rw [List.getElem_append_right (by simpa using hi2)]
        simp only [List.getElem_map, List.getElem_range, List.getElem_replicate]
        exact hz i (by omega)
  rw [h, wsum_more _ _ (by unfold rowOf; simp) 0]
end Go.Proofs.Ytonifgfgeollaaa.X
end
section
/- What a clue tells of a river: the program and the reference. -/
--! needs LBase LPzClue LGap LLeft LWays spec_pzValue spec_pzFits strings_Count impl_bit impl_told impl_Clue_fits
namespace Go.Proofs.Ytonifgfgeollaaa.X
open Go.Proofs.Ytonifgfgeollaaa.Sq Go.RowKit Go.Proofs.YtonifgfgeollaaaW.PrintWords Go.Proofs.YtonifgfgeollaaaW.PrintLast Go.Proofs.YtonifgfgeollaaaW.PrintMore
attribute [local go_sem] max2_int min2_int max_two min_two max_three min_three max_four min_four   -- for this text's walks alone
set_option linter.unusedVariables false
set_option linter.unusedSimpArgs false
/-- The river of so many places with a number. -/
def riv (p n : Nat) : ByteArray := ⟨((List.range p).map fun i => if n / 2 ^ (p - 1 - i) % 2 = 1 then (111 : UInt8) else 46).toArray⟩
theorem riv_size (p n : Nat) : (riv p n).size = p := by
  show ((List.range p).map _).toArray.size = p
  simp
def isRiv (r : ByteArray) : Prop := ∃ p n : Nat, 1 ≤ p ∧ p ≤ 8 ∧ n < 2 ^ p ∧ r = riv p n
def all_rivs (c : Nat → Nat → Bool) : Bool := (List.range 8).all fun p => (List.range (2 ^ (p + 1))).all fun n => c (p + 1) n
theorem all_rivs_at {c : Nat → Nat → Bool} (h : all_rivs c = true) {p n : Nat} (h1 : 1 ≤ p) (h2 : p ≤ 8) (h3 : n < 2 ^ p) : c p n = true := by
  unfold all_rivs at h
  rw [List.all_eq_true] at h
  have h4 := h (p - 1) (List.mem_range.2 (by omega))
  rw [List.all_eq_true, show p - 1 + 1 = p by omega] at h4
  exact h4 n (List.mem_range.2 h3)
/-- How many stones there are. -/
def stones (r : ByteArray) : Nat := ((List.range' 1 r.size).filter (pl r)).length
theorem count_all : all_rivs (fun p n => Lib.countByte (riv p n).data.toList 111 == stones (riv p n)) = true := by decide +kernel
theorem count_eq (p n : Nat) (h1 : 1 ≤ p) (h2 : p ≤ 8) (h3 : n < 2 ^ p) : strings_Count.f (riv p n) (⟨#[111]⟩ : ByteArray) = some ((stones (riv p n) : Nat) : Int) := by
  have h := all_rivs_at count_all h1 h2 h3
  rw [beq_iff_eq] at h
  rw [← h]
  rfl
theorem stones_l0 (r : ByteArray) (hr : r.size ≤ 100) (e : Nat) : ∀ (i s : Nat), s ≤ i → i + e = r.size + 1 → Ev (fun k => spec_pzValue.l0 k r (s : Int) (i : Int)) ((s + ((List.range' i e).filter (pl r)).length : Nat) : Int) := by
  induction e with
  | zero =>
    intro i s hs hi
    refine Ev.step (fun k => by rw [spec_pzValue.l0]) ?_
    exact evNeg (by omega) (evSome rfl)
  | succ e ih =>
    intro i s hs hi
    refine Ev.step (fun k => by rw [spec_pzValue.l0]) ?_
    rw [i1 i (by omega), i1 s (by omega), List.range'_succ]
    refine evPos (by omega) (evBind0 (rvStand_eq r hr i (by omega)) ?_)
    cases hp : pl r i with
    | true =>
      rw [List.filter_cons_of_pos hp, List.length_cons]
      refine evPos rfl (evEq (ih (i + 1) (s + 1) (by omega) (by omega)) ?_)
      congr 1
      omega
    | false =>
      rw [List.filter_cons_of_neg (by rw [hp]; exact Bool.false_ne_true)]
      exact evNeg (by simp) (ih (i + 1) s (by omega) (by omega))
/-- What a clue of a kind, with a number, tells of a river. -/
def valOf (r : ByteArray) (kind a : Int) : Int :=
  if kind = 0 then (stones r : Nat) else if kind = 1 then (if pl r a.toNat = true then 1 else 0) else if kind = 2 then mx 0 (rd (lfT r a (r.size + 2)) 0) else
  if kind = 3 then (gapOf 0 0 0 ((List.range' 1 (r.size + 1)).filter (pl r))).1 else if kind = 4 then wsum 0 (rowOf (r.size + 2) (waysF r a)) else (gapOf 0 0 0 ((List.range' 1 (r.size + 1)).filter (pl r))).2
/-- What a clue's numbers are. -/
theorem okClue_in (p : Nat) (c : S25) (h : okClue (p : Int) c = true) : (c.f0 = 1 → 1 ≤ c.f1 ∧ c.f1 ≤ (p : Int)) ∧ (c.f0 = 2 → 1 ≤ c.f1 ∧ c.f1 ≤ 9) ∧ (c.f0 = 4 → 1 ≤ c.f1 ∧ c.f1 ≤ 9) := by
  unfold okClue clueB inB at h
  refine ⟨fun e => ?_, fun e => ?_, fun e => ?_⟩ <;> simp [e] at h <;> omega
theorem value_ev (p n : Nat) (h1 : 1 ≤ p) (h2 : p ≤ 8) (c : S25) (h : okClue (p : Int) c = true) : Ev (fun k => spec_pzValue.f k c.f0 c.f1 (riv p n)) (valOf (riv p n) c.f0 c.f1) := by
  obtain ⟨q1, q2, q4⟩ := okClue_in p c h
  have hs := riv_size p n
  generalize riv p n = r at *
  unfold spec_pzValue.f valOf
  refine evSplit (fun e => ?_) (fun e => ?_)
  · rw [if_pos e]
    refine evEq (stones_l0 r (by omega) r.size 1 0 (by omega) (by omega)) ?_
    unfold stones
    rw [Nat.zero_add]
  rw [if_neg e]
  refine evSplit (fun e => ?_) (fun e => ?_)
  · rw [if_pos e]
    obtain ⟨a1, a2⟩ := q1 e
    obtain ⟨x, hx⟩ : ∃ x : Nat, c.f1 = (x : Int) := ⟨c.f1.toNat, by omega⟩
    rw [hx, Int.toNat_natCast]
    refine evBind0 (rvStand_eq r (by omega) x (by omega)) ?_
    refine evSplit (fun e => ?_) (fun e => ?_)
    · rw [if_pos e]; exact evSome rfl
    · rw [if_neg e]; exact evSome rfl
  rw [if_neg e]
  refine evSplit (fun e => ?_) (fun e => ?_)
  · rw [if_pos e]
    obtain ⟨a1, a2⟩ := q2 e
    refine Ev.bind (rvLeft_ev r (by omega) c.f1 (by omega) (by omega)) (evPos (by rw [lfT_len]; omega) (evBind0 (most_eq _ _) (evSome rfl)))
  rw [if_neg e]
  refine evSplit (fun e => ?_) (fun e => ?_)
  · rw [if_pos e]
    exact Ev.bind (rvGap_ev r (by omega)) (evSome rfl)
  rw [if_neg e]
  refine evSplit (fun e => ?_) (fun e => ?_)
  · rw [if_pos e]
    obtain ⟨a1, a2⟩ := q4 e
    refine Ev.bind (rvCount_ev r (by omega) c.f1 a1 (by omega)) ?_
    have h := value_l1 (rowOf (r.size + 2) (waysF r c.f1)) (by rw [rowOf_len]; omega) _ 0 0 (Nat.zero_add _)
    rw [List.drop_zero] at h
    exact h
  rw [if_neg e]
  exact Ev.bind (rvGap_ev r (by omega)) (evSome rfl)
theorem told_ev (p n : Nat) (h1 : 1 ≤ p) (h2 : p ≤ 8) (h3 : n < 2 ^ p) (c : S25) (h : okClue (p : Int) c = true) : Ev (fun k => impl_told.f k c.f0 c.f1 (riv p n)) (valOf (riv p n) c.f0 c.f1) := by
  obtain ⟨q1, q2, q4⟩ := okClue_in p c h
  have hs := riv_size p n
  have hcn := count_eq p n h1 h2 h3
  generalize riv p n = r at *
  unfold impl_told.f valOf
  refine Ev.bind (longestGap_ev r (by omega)) ?_
  refine evSplit (fun e => ?_) (fun e => ?_)
  · rw [if_pos e]
    exact evBind0 hcn (evSome rfl)
  rw [if_neg e]
  refine evSplit (fun e => ?_) (fun e => ?_)
  · rw [if_pos e]
    obtain ⟨a1, a2⟩ := q1 e
    obtain ⟨x, hx⟩ : ∃ x : Nat, c.f1 = (x : Int) := ⟨c.f1.toNat, by omega⟩
    rw [hx, Int.toNat_natCast, w64 (x := (x : Int) - 1) (by omega) (by omega)]
    refine evPos (by omega) (evPos (by omega) ?_)
    have hb : pl r x = (bt r ((x : Int) - 1) == 111) := by
      unfold pl
      rw [decide_eq_false (by omega), decide_eq_false (by omega)]
      rfl
    rw [hb]
    unfold impl_bit.f
    refine Ev.bind (a := if (bt r ((x : Int) - 1) == 111) = true then 1 else 0) ?_ (evSome rfl)
    refine evSplit (fun e => ?_) (fun e => ?_)
    · rw [if_pos e]; exact evSome rfl
    · rw [if_neg e]; exact evSome rfl
  rw [if_neg e]
  refine evSplit (fun e => ?_) (fun e => ?_)
  · rw [if_pos e]
    obtain ⟨a1, a2⟩ := q2 e
    exact Ev.bind (leapsLeft_ev r (by omega) c.f1 (by omega) (by omega)) (evPos (by rw [lfT_len]; omega) (evSome rfl))
  rw [if_neg e]
  refine evSplit (fun e => ?_) (fun e => ?_)
  · rw [if_pos e]
    exact evSome rfl
  rw [if_neg e]
  refine evSplit (fun e => ?_) (fun e => ?_)
  · rw [if_pos e]
    obtain ⟨a1, a2⟩ := q4 e
    refine Ev.bind (countBy_ev r (by omega) c.f1 a1 (by omega)) (Ev.bind (sum_ev _ (by rw [rowOf_len]; omega)) (evSome ?_))
    exact ways_sum r (by omega) c.f1 a1
  rw [if_neg e]
  exact evSome rfl
/-- Whether a river fits a clue. -/
def fitsB (r : ByteArray) (c : S25) : Bool := valOf r c.f0 c.f1 == c.f2
theorem fits_spec (p n : Nat) (h1 : 1 ≤ p) (h2 : p ≤ 8) (c : S25) (h : okClue (p : Int) c = true) : Ev (fun k => spec_pzFits.f k c.f0 c.f1 c.f2 (riv p n)) (fitsB (riv p n) c) := by
  unfold spec_pzFits.f
  exact Ev.bind (value_ev p n h1 h2 c h) (evSome rfl)
theorem fits_impl (p n : Nat) (h1 : 1 ≤ p) (h2 : p ≤ 8) (h3 : n < 2 ^ p) (c : S25) (h : okClue (p : Int) c = true) : Ev (fun k => impl_Clue_fits.f k c.f0 c.f1 c.f2 (riv p n)) (fitsB (riv p n) c) := by
  unfold impl_Clue_fits.f
  exact Ev.bind (told_ev p n h1 h2 h3 c h) (evSome rfl)
end Go.Proofs.Ytonifgfgeollaaa.X
end
section
/- All rivers that fit some clues: the program and the reference. -/
--! needs LBase LPzClue LPzGood LRiv spec_pzAll spec_pzRiver impl_solutions_1 slices_IndexFunc_Clue__solutions_1 slices_ContainsFunc_Clue__solutions_1 impl_solutions
namespace Go.Proofs.Ytonifgfgeollaaa.X
open Go.Proofs.Ytonifgfgeollaaa.Sq Go.RowKit Go.Proofs.YtonifgfgeollaaaW.PrintWords Go.Proofs.YtonifgfgeollaaaW.PrintLast Go.Proofs.YtonifgfgeollaaaW.PrintMore
attribute [local go_sem] max2_int min2_int max_two min_two max_three min_three max_four min_four   -- for this text's walks alone
set_option linter.unusedVariables false
set_option linter.unusedSimpArgs false
theorem bytes_ext {a b : ByteArray} (h : (a.data.toList == b.data.toList) = true) : a = b := by
  rw [beq_iff_eq] at h
  obtain ⟨⟨x⟩⟩ := a
  obtain ⟨⟨y⟩⟩ := b
  obtain rfl : x = y := h
  rfl
theorem river_all : all_rivs (fun p n => match spec_pzRiver.f 20 (p : Int) (n : Int) with | some r => r.data.toList == (riv p n).data.toList | none => false) = true := by decide +kernel
theorem river_ev (p n : Nat) (h1 : 1 ≤ p) (h2 : p ≤ 8) (h3 : n < 2 ^ p) : Ev (fun k => spec_pzRiver.f k (p : Int) (n : Int)) (riv p n) := by
  have h := all_rivs_at river_all h1 h2 h3
  cases hr : spec_pzRiver.f 20 (p : Int) (n : Int) with
  | none => rw [hr] at h; cases h
  | some r =>
    rw [hr] at h
    rw [← bytes_ext h]
    exact Ev.of (spec_pzRiver.mono _ _) hr
def dgN (n k : Nat) : Int := Go.bits .and .i64 (shr .i64 (n : Int) (k : Int)) 1
def dgs (p n i : Nat) : List Int := (List.range i).map fun j => bt (⟨#[46, 111]⟩ : ByteArray) (dgN n (p - 1 - j))
theorem dgN_all : ((List.range 256).all fun n => (List.range 8).all fun k => decide (0 ≤ dgN n k ∧ dgN n k < 2)) = true := by decide +kernel
theorem dgN_in (n k : Nat) (hn : n < 256) (hk : k < 8) : 0 ≤ dgN n k ∧ dgN n k < 2 := by
  have h := dgN_all
  rw [List.all_eq_true] at h
  have h2 := h n (List.mem_range.2 hn)
  rw [List.all_eq_true] at h2
  exact of_decide_eq_true (h2 k (List.mem_range.2 hk))
theorem signs_all : all_rivs (fun p n => (strOfNums (dgs p n p)).data.toList == (riv p n).data.toList) = true := by decide +kernel
theorem signs_eq (p n : Nat) (h1 : 1 ≤ p) (h2 : p ≤ 8) (h3 : n < 2 ^ p) : strOfNums (dgs p n p) = riv p n := bytes_ext (all_rivs_at signs_all h1 h2 h3)
theorem two_p (p : Nat) (h1 : 1 ≤ p) (h2 : p ≤ 8) : shl .i64 1 (p : Int) = ((2 ^ p : Nat) : Int) ∧ 2 ^ p ≤ 256 := by
  obtain rfl | rfl | rfl | rfl | rfl | rfl | rfl | rfl : p = 1 ∨ p = 2 ∨ p = 3 ∨ p = 4 ∨ p = 5 ∨ p = 6 ∨ p = 7 ∨ p = 8 := by omega
  all_goals decide +kernel
/-- All rivers that fit, in order: those with a number below m. -/
def solsTo (p : Nat) (l : List S25) (m : Nat) : List ByteArray := ((List.range m).filter fun n => l.all (fitsB (riv p n))).map (riv p)
def sols (p : Nat) (l : List S25) : List ByteArray := solsTo p l (2 ^ p)
theorem solsTo_len (p : Nat) (l : List S25) (m : Nat) : (solsTo p l m).length ≤ m := by
  unfold solsTo
  rw [List.length_map]
  have := List.length_filter_le (fun n => l.all (fitsB (riv p n))) (List.range m)
  rw [List.length_range] at this
  exact this
theorem solsTo_next (p : Nat) (l : List S25) (m : Nat) : solsTo p l (m + 1) = if l.all (fitsB (riv p m)) = true then solsTo p l m ++ [riv p m] else solsTo p l m := by
  unfold solsTo
  rw [List.range_succ, List.filter_append, List.map_append]
  split
  · rename_i h
    rw [List.filter_cons_of_pos (p := fun n => l.all (fitsB (riv p n))) h]
    rfl
  · rename_i h
    rw [List.filter_cons_of_neg (p := fun n => l.all (fitsB (riv p n))) h]
    simp
/-! ### The reference -/
theorem all_l1 (p : Nat) (h1 : 1 ≤ p) (h2 : p ≤ 8) (l : List S25) (hl : l.length ≤ 6) (hok : ∀ c ∈ l, okClue (p : Int) c = true) (n : Nat) (hn : n < 2 ^ p) (out : List ByteArray) (ho : out.length ≤ 256) (res : List ByteArray) (e : Nat) : ∀ (i : Nat) (b : Bool), i + e = l.length →
    Ev (fun k => spec_pzAll.l0 k (p : Int) l (if (b && (l.drop i).all (fitsB (riv p n))) = true then out ++ [riv p n] else out) ((n + 1 : Nat) : Int)) res →
    Ev (fun k => spec_pzAll.l1 k (p : Int) l out (n : Int) (riv p n) b l (l.length : Int) (i : Int)) res := by
  have h256 := (two_p p h1 h2).2
  induction e with
  | zero =>
    intro i b hi h
    rw [List.drop_of_length_le (by omega)] at h
    refine Ev.step (fun k => by rw [spec_pzAll.l1]) ?_
    rw [i1 n (by omega)]
    refine evNeg (by omega) ?_
    cases b with
    | true => exact evPos rfl (evPos (by omega) h)
    | false => exact evNeg (by simp) h
  | succ e ih =>
    intro i b hi h
    have hd : l.drop i = rd_T25 l i :: l.drop (i + 1) := getD_drop_cons l i z25 (by omega)
    have hmem : rd_T25 l i ∈ l := by
      have e : rd_T25 l i = l[i]'(by omega) := (getElem_getD l i z25 (by omega)).symm
      rw [e]
      exact List.getElem_mem (by omega)
    refine Ev.step (fun k => by rw [spec_pzAll.l1]) ?_
    rw [i1 i (by omega)]
    refine evPos (by omega) (evPos (by omega) (evPos (by omega) ?_))
    rw [hd, List.all_cons] at h
    cases b with
    | true =>
      refine evPos rfl (Ev.bind (fits_spec p n h1 h2 _ (hok _ hmem)) (ih (i + 1) _ (by omega) ?_))
      simpa using h
    | false =>
      refine evNeg (by simp) (ih (i + 1) false (by omega) ?_)
      simpa using h
theorem all_l0 (p : Nat) (h1 : 1 ≤ p) (h2 : p ≤ 8) (l : List S25) (hl : l.length ≤ 6) (hok : ∀ c ∈ l, okClue (p : Int) c = true) (e : Nat) : ∀ n : Nat, n + e = 2 ^ p → Ev (fun k => spec_pzAll.l0 k (p : Int) l (solsTo p l n) (n : Int)) (sols p l) := by
  obtain ⟨hsh, h256⟩ := two_p p h1 h2
  induction e with
  | zero =>
    intro n hn
    refine Ev.step (fun k => by rw [spec_pzAll.l0]) ?_
    rw [hsh]
    refine evPos (by omega) (evNeg (by omega) (evSome ?_))
    rw [Nat.add_zero] at hn
    rw [hn]
    rfl
  | succ e ih =>
    intro n hn
    refine Ev.step (fun k => by rw [spec_pzAll.l0]) ?_
    rw [hsh]
    refine evPos (by omega) (evPos (by omega) (Ev.bind (river_ev p n h1 h2 (by omega)) ?_))
    have hlen := solsTo_len p l n
    refine all_l1 p h1 h2 l hl hok n (by omega) _ (by omega) _ l.length 0 true (Nat.zero_add _) ?_
    have h := ih (n + 1) (by omega)
    rw [solsTo_next] at h
    simpa using h
theorem all_ev (p : Nat) (h1 : 1 ≤ p) (h2 : p ≤ 8) (l : List S25) (hl : l.length ≤ 6) (hok : ∀ c ∈ l, okClue (p : Int) c = true) : Ev (fun k => spec_pzAll.f k (p : Int) l) (sols p l) := by
  unfold spec_pzAll.f
  exact all_l0 p h1 h2 l hl hok (2 ^ p) 0 (Nat.zero_add _)
/-! ### The program -/
theorem solutions_1_ev (p n : Nat) (h1 : 1 ≤ p) (h2 : p ≤ 8) (h3 : n < 2 ^ p) (c : S25) (h : okClue (p : Int) c = true) : Ev (fun k => impl_solutions_1.f k c.f0 c.f1 c.f2 (riv p n)) (!fitsB (riv p n) c) := by
  unfold impl_solutions_1.f
  exact Ev.bind (fits_impl p n h1 h2 h3 c h) (evSome rfl)
theorem IndexSol_l0 (p n : Nat) (h1 : 1 ≤ p) (h2 : p ≤ 8) (h3 : n < 2 ^ p) (l : List S25) (hl : l.length ≤ 6) (hok : ∀ c ∈ l, okClue (p : Int) c = true) (e : Nat) : ∀ i : Nat, i + e = l.length →
    ∃ r, Ev (fun k => slices_IndexFunc_Clue__solutions_1.l0 k l (l.length : Int) (i : Int) (riv p n)) r ∧ (decide (r ≥ 0) = !(l.drop i).all (fitsB (riv p n))) := by
  induction e with
  | zero =>
    intro i hi
    refine ⟨-1, ?_, ?_⟩
    · refine Ev.step (fun k => by rw [slices_IndexFunc_Clue__solutions_1.l0]) ?_
      exact evNeg (by omega) (evSome rfl)
    · rw [List.drop_of_length_le (by omega)]; rfl
  | succ e ih =>
    intro i hi
    have hd : l.drop i = rd_T25 l i :: l.drop (i + 1) := getD_drop_cons l i z25 (by omega)
    have hmem : rd_T25 l i ∈ l := by
      have e : rd_T25 l i = l[i]'(by omega) := (getElem_getD l i z25 (by omega)).symm
      rw [e]
      exact List.getElem_mem (by omega)
    have h4 := solutions_1_ev p n h1 h2 h3 _ (hok _ hmem)
    cases hb : fitsB (riv p n) (rd_T25 l i) with
    | true =>
      obtain ⟨r, hr, hr2⟩ := ih (i + 1) (by omega)
      rw [hb] at h4
      refine ⟨r, ?_, ?_⟩
      · refine Ev.step (fun k => by rw [slices_IndexFunc_Clue__solutions_1.l0]) ?_
        rw [i1 i (by omega)]
        refine evPos (by omega) (evPos (by omega) (evPos (by omega) (Ev.bind h4 (evNeg (by simp) hr))))
      · rw [hr2, hd, List.all_cons, hb]; rfl
    | false =>
      rw [hb] at h4
      refine ⟨(i : Int), ?_, ?_⟩
      · refine Ev.step (fun k => by rw [slices_IndexFunc_Clue__solutions_1.l0]) ?_
        refine evPos (by omega) (evPos (by omega) (evPos (by omega) (Ev.bind h4 (evPos (by simp) (evSome rfl)))))
      · rw [hd, List.all_cons, hb]
        simp
theorem ContainsSol_ev (p n : Nat) (h1 : 1 ≤ p) (h2 : p ≤ 8) (h3 : n < 2 ^ p) (l : List S25) (hl : l.length ≤ 6) (hok : ∀ c ∈ l, okClue (p : Int) c = true) : Ev (fun k => slices_ContainsFunc_Clue__solutions_1.f k l (riv p n)) (!l.all (fitsB (riv p n))) := by
  obtain ⟨r, hr, hr2⟩ := IndexSol_l0 p n h1 h2 h3 l hl hok l.length 0 (Nat.zero_add _)
  unfold slices_ContainsFunc_Clue__solutions_1.f slices_IndexFunc_Clue__solutions_1.f
  refine Ev.bind hr (evSome ?_)
  rw [hr2, List.drop_zero]
theorem sol_l1 (p n : Nat) (h1 : 1 ≤ p) (h2 : p ≤ 8) (h3 : n < 2 ^ p) (l : List S25) (hl : l.length ≤ 6) (hok : ∀ c ∈ l, okClue (p : Int) c = true) (out : List ByteArray) (ho : out.length ≤ 256) (m : Int) (res : List ByteArray)
    (h : Ev (fun k => impl_solutions.l0 k (p : Int) l (if l.all (fitsB (riv p n)) = true then out ++ [riv p n] else out) m ((n + 1 : Nat) : Int)) res) (e : Nat) : ∀ i : Nat, i + e = p →
    Ev (fun k => impl_solutions.l1 k (p : Int) l out (n : Int) (dgs p n i) ((p : Int) - 1 - (i : Int)) m (n : Int)) res := by
  have h256 := (two_p p h1 h2).2
  induction e with
  | zero =>
    intro i hi
    obtain rfl : i = p := by omega
    refine Ev.step (fun k => by rw [impl_solutions.l1]) ?_
    rw [i1 n (by omega), signs_eq i n h1 h2 h3]
    refine evNeg (by omega) (Ev.bind (ContainsSol_ev i n h1 h2 h3 l hl hok) ?_)
    cases hb : l.all (fitsB (riv i n)) with
    | true =>
      rw [if_pos hb] at h
      exact evNeg (by simp) (evPos (by omega) h)
    | false =>
      rw [if_neg (by rw [hb]; exact Bool.false_ne_true)] at h
      exact evPos rfl h
  | succ e ih =>
    intro i hi
    have h5 := ih (i + 1) (by omega)
    have hlen : (dgs p n i).length = i := by simp [dgs]
    have hk : ((p : Int) - 1 - (i : Int)) = ((p - 1 - i : Nat) : Int) := by omega
    have hin := dgN_in n (p - 1 - i) (by omega) (by omega)
    have hnext : dgs p n (i + 1) = dgs p n i ++ [bt (⟨#[46, 111]⟩ : ByteArray) (dgN n (p - 1 - i))] := by
      unfold dgs
      rw [List.range_succ, List.map_append]
      rfl
    rw [hnext] at h5
    refine Ev.step (fun k => by rw [impl_solutions.l1]) ?_
    rw [w64 (x := (p : Int) - 1 - (i : Int) - 1) (by omega) (by omega), show (p : Int) - 1 - (i : Int) - 1 = (p : Int) - 1 - ((i + 1 : Nat) : Int) by omega, hk]
    exact evPos (by omega) (evPos (by omega) (evPos hin.1 (evPos hin.2 (evPos (by omega) h5))))
theorem sol_l0 (p : Nat) (h1 : 1 ≤ p) (h2 : p ≤ 8) (l : List S25) (hl : l.length ≤ 6) (hok : ∀ c ∈ l, okClue (p : Int) c = true) (e : Nat) : ∀ n : Nat, n + e = 2 ^ p → Ev (fun k => impl_solutions.l0 k (p : Int) l (solsTo p l n) ((2 ^ p : Nat) : Int) (n : Int)) (sols p l) := by
  have h256 := (two_p p h1 h2).2
  induction e with
  | zero =>
    intro n hn
    refine Ev.step (fun k => by rw [impl_solutions.l0]) ?_
    refine evNeg (by omega) (evSome ?_)
    rw [Nat.add_zero] at hn
    rw [hn]
    rfl
  | succ e ih =>
    intro n hn
    refine Ev.step (fun k => by rw [impl_solutions.l0]) ?_
    refine evPos (by omega) ?_
    have hlen := solsTo_len p l n
    have h := ih (n + 1) (by omega)
    rw [solsTo_next] at h
    have h5 := sol_l1 p n h1 h2 (by omega) l hl hok (solsTo p l n) (by omega) ((2 ^ p : Nat) : Int) _ h p 0 (Nat.zero_add _)
    rw [w64 (x := (p : Int) - 1) (by omega) (by omega)]
    rw [show (p : Int) - 1 - ((0 : Nat) : Int) = (p : Int) - 1 by omega] at h5
    exact h5
theorem sol_ev (p : Nat) (h1 : 1 ≤ p) (h2 : p ≤ 8) (l : List S25) (hl : l.length ≤ 6) (hok : ∀ c ∈ l, okClue (p : Int) c = true) : Ev (fun k => impl_solutions.f k (p : Int) l) (sols p l) := by
  unfold impl_solutions.f
  rw [(two_p p h1 h2).1]
  exact evPos (by omega) (sol_l0 p h1 h2 l hl hok (2 ^ p) 0 (Nat.zero_add _))
end Go.Proofs.Ytonifgfgeollaaa.X
end
section
/- A puzzle's solutions. -/
--! needs LBase LPzGood LSols impl_Solutions
namespace Go.Proofs.Ytonifgfgeollaaa.X
open Go.Proofs.Ytonifgfgeollaaa.Sq Go.RowKit Go.Proofs.YtonifgfgeollaaaW.PrintWords Go.Proofs.YtonifgfgeollaaaW.PrintLast Go.Proofs.YtonifgfgeollaaaW.PrintMore
attribute [local go_sem] max2_int min2_int max_two min_two max_three min_three max_four min_four   -- for this text's walks alone
set_option linter.unusedVariables false
set_option linter.unusedSimpArgs false
def solC (q : Int) (l : List S25) : List ByteArray := if goodB q l = true then sols q.toNat l else []
theorem Solutions_impl (q : Int) (l : List S25) : Ev (fun k => impl_Solutions.f k q l) (solC q l, goodB q l) := by
  unfold impl_Solutions.f solC
  refine Ev.bind (IsPuzzle_impl q l) ?_
  cases hg : goodB q l with
  | false => exact evNeg (by simp) (evSome rfl)
  | true =>
    obtain ⟨p, rfl, h1, h2, h3, h4⟩ := goodB_parts q l hg
    refine evPos rfl (Ev.bind (sol_ev p h1 h2 l h3 h4) (evSome ?_))
    rw [if_pos rfl, Int.toNat_natCast]
theorem all_spec (q : Int) (l : List S25) (hg : goodB q l = true) : Ev (fun k => spec_pzAll.f k q l) (solC q l) := by
  unfold solC
  rw [if_pos hg]
  obtain ⟨p, rfl, h1, h2, h3, h4⟩ := goodB_parts q l hg
  rw [Int.toNat_natCast]
  exact all_ev p h1 h2 l h3 h4
theorem solC_len (q : Int) (l : List S25) : (solC q l).length ≤ 256 := by
  unfold solC
  split
  · rename_i hg
    obtain ⟨p, rfl, h1, h2, h3, h4⟩ := goodB_parts q l hg
    rw [Int.toNat_natCast]
    exact Nat.le_trans (solsTo_len p l (2 ^ p)) (two_p p h1 h2).2
  · simp
theorem solC_not (q : Int) (l : List S25) (hg : goodB q l = false) : solC q l = [] := by
  unfold solC
  rw [hg]
  rfl
end Go.Proofs.Ytonifgfgeollaaa.X
end
