import Derived.Test.YticmboabiemniaaP4
import Derived.Test.YticmboabiemniaaP5
import Derived.Test.YticmboabiemniaaP8
import Derived.Test.YticmboabiemniaaP10
import Derived.Test.YticmboabiemniaaP15
import Derived.Test.YticmboabiemniaaP16
import Derived.Test.YticmboabiemniaaP17
import Derived.Test.YticmboabiemniaaP19
import Derived.Test.YticmboabiemniaaP20
section
/- Small words on rounds, numbers and lists. -/
namespace Go.Proofs.Yticmboabiemniaa.X
open Go.Proofs.Yticmboabiemniaa.Sq Go.RowKit Go.Proofs.YticmboabiemniaaW.PrintWords Go.Proofs.YticmboabiemniaaW.PrintLast Go.Proofs.YticmboabiemniaaW.PrintMore
attribute [local go_sem] max2_int min2_int max_two min_two max_three min_three max_four min_four   -- for this text's walks alone
set_option linter.unusedVariables false
set_option linter.unusedSimpArgs false
theorem w64 {x : Int} (h : -9223372036854775808 ≤ x) (h' : x ≤ 9223372036854775807) : wrap64 x = x := by
  unfold wrap64
  omega
theorem evPos {α : Type} {c : Prop} [Decidable c] {g f : Nat → Option α} {r : α} (hc : c) (h : Ev g r) : Ev (fun k => if c then g k else f k) r := by
  obtain ⟨K, hK⟩ := h
  exact ⟨K, fun k hk => (if_pos hc).trans (hK k hk)⟩
theorem evNeg {α : Type} {c : Prop} [Decidable c] {g f : Nat → Option α} {r : α} (hc : ¬ c) (h : Ev f r) : Ev (fun k => if c then g k else f k) r := by
  obtain ⟨K, hK⟩ := h
  exact ⟨K, fun k hk => (if_neg hc).trans (hK k hk)⟩
theorem evSplit {α : Type} {c : Prop} [Decidable c] {g f : Nat → Option α} {r : α} (h : c → Ev g r) (h' : ¬ c → Ev f r) : Ev (fun k => if c then g k else f k) r := by
  by_cases hc : c
  · exact evPos hc (h hc)
  · exact evNeg hc (h' hc)
theorem evBind0 {α β : Type} {o : Option α} {f : Nat → α → Option β} {a : α} {r : β} (h : o = some a) (k : Ev (fun n => f n a) r) : Ev (fun n => o.bind (f n)) r := by
  obtain ⟨K, hK⟩ := k
  exact ⟨K, fun k hk => by rw [h]; exact hK k hk⟩
theorem evEq {α : Type} {g : Nat → Option α} {r r' : α} (h : Ev g r) (e : r = r') : Ev g r' := e ▸ h
theorem evSome {α : Type} {r r' : α} (e : r = r') : Ev (fun _ => some r) r' := ⟨0, fun _ _ => by rw [e]⟩
/-- A list that is filled place by place. -/
theorem set_mid {α : Type} (m z : List α) (i : Nat) (h : i < m.length) (hz : z.length = m.length) : (m.take i ++ z.drop i).set i (m[i]'h) = m.take (i + 1) ++ z.drop (i + 1) := by
  have h1 : (m.take i).length = i := by rw [List.length_take]; omega
  rw [List.set_append_right _ _ (by omega), h1, Nat.sub_self]
  have h2 : z.drop i = (z[i]'(by omega)) :: z.drop (i + 1) := List.drop_eq_getElem_cons (by omega)
  rw [h2, List.set_cons_zero, List.take_succ_eq_append_getElem h, List.append_assoc]
  rfl
theorem mid_len {α : Type} (m z : List α) (i : Nat) (hz : z.length = m.length) (h : i ≤ m.length) : (m.take i ++ z.drop i).length = m.length := by
  rw [List.length_append, List.length_take, List.length_drop]
  omega
theorem getD_drop_cons {α : Type} (l : List α) (i : Nat) (d : α) (h : i < l.length) : l.drop i = l.getD i d :: l.drop (i + 1) := by
  rw [List.drop_eq_getElem_cons h, List.getD_eq_getElem?_getD, List.getElem?_eq_getElem h]
  rfl
theorem getD_map' {α β : Type} (l : List α) (f : α → β) (i : Nat) (d : α) (e : β) (h : i < l.length) : (l.map f).getD i e = f (l.getD i d) := by
  rw [List.getD_eq_getElem?_getD, List.getD_eq_getElem?_getD, List.getElem?_map, List.getElem?_eq_getElem h]
  rfl
theorem getElem_getD {α : Type} (l : List α) (i : Nat) (d : α) (h : i < l.length) : l[i]'h = l.getD i d := by
  rw [List.getD_eq_getElem?_getD, List.getElem?_eq_getElem h]
  rfl
theorem getD_set_same {α : Type} (l : List α) (i : Nat) (a d : α) (h : i < l.length) : (l.set i a).getD i d = a := by
  rw [List.getD_eq_getElem?_getD, List.getElem?_set_self h]
  rfl
theorem getD_range_map {α : Type} (f : Nat → α) (n i : Nat) (d : α) (h : i < n) : ((List.range n).map f).getD i d = f i := by
  rw [List.getD_eq_getElem?_getD, List.getElem?_map, List.getElem?_range h]
  rfl
end Go.Proofs.Yticmboabiemniaa.X
end
section
/- Lists of clues marked and looked at, as the laws do. -/
--! needs LBase laws_markPuzzle
namespace Go.Proofs.Yticmboabiemniaa.X
open Go.Proofs.Yticmboabiemniaa.Sq Go.RowKit Go.Proofs.YticmboabiemniaaW.PrintWords Go.Proofs.YticmboabiemniaaW.PrintLast Go.Proofs.YticmboabiemniaaW.PrintMore
attribute [local go_sem] max2_int min2_int max_two min_two max_three min_three max_four min_four   -- for this text's walks alone
set_option linter.unusedVariables false
set_option linter.unusedSimpArgs false
def mkC (m : Int) (n : Nat) : List S55 := (List.range n).map fun (i : Nat) => ⟨m + 3 * (i : Int), m + 3 * (i : Int) + 1, m + 3 * (i : Int) + 2⟩
theorem mkC_len (m : Int) (n : Nat) : (mkC m n).length = n := by simp [mkC]
theorem mkC_at (m : Int) (n i : Nat) (h : i < n) : rd_T55 (mkC m n) (i : Int) = ⟨m + 3 * i, m + 3 * i + 1, m + 3 * i + 2⟩ := by
  unfold rd_T55 mkC
  rw [Int.toNat_natCast, getD_range_map _ _ _ _ h]
theorem markClueS_l0 (l : List S55) (m : Int) (h0 : 0 ≤ m) (hm : m + 3 * l.length ≤ 4611686018427387904) (d : Nat) : ∀ i : Nat, i + d = l.length →
    Ev (fun k => laws_markClueS.l0 k ((mkC m l.length).take i ++ l.drop i) (m + 3 * i) (i : Int)) (m + 3 * l.length, mkC m l.length) := by
  induction d with
  | zero =>
    intro i hi
    refine Ev.step (fun k => by rw [laws_markClueS.l0]) ?_
    have hl := mid_len (mkC m l.length) l i (by rw [mkC_len]) (by rw [mkC_len]; omega)
    rw [mkC_len] at hl
    refine evNeg (by rw [hl]; omega) (evSome ?_)
    rw [List.take_of_length_le (by rw [mkC_len]; omega), List.drop_of_length_le (by omega), List.append_nil, show i = l.length by omega]
  | succ d ih =>
    intro i hi
    refine Ev.step (fun k => by rw [laws_markClueS.l0]) ?_
    have hl := mid_len (mkC m l.length) l i (by rw [mkC_len]) (by rw [mkC_len]; omega)
    rw [mkC_len] at hl
    refine evPos (by rw [hl]; omega) (evPos (by omega) ?_)
    refine evBind0 rfl ?_
    refine evBind0 rfl ?_
    rw [w64 (x := m + 3 * i + 1) (by omega) (by omega), w64 (x := m + 3 * i + 1 + 1) (by omega) (by omega), w64 (x := m + 3 * i + 1 + 1 + 1) (by omega) (by omega), w64 (x := (i : Int) + 1) (by omega) (by omega)]
    generalize hL : (mkC m l.length).take i ++ l.drop i = L at *
    have hi' : i < L.length := by omega
    have e1 : ∀ a : S55, rd_T55 (L.set i a) (i : Int) = a := fun a => by
      unfold rd_T55
      rw [Int.toNat_natCast]
      exact getD_set_same L i a _ hi'
    simp only [Int.toNat_natCast, e1, List.set_set]
    have h2 := ih (i + 1) (by omega)
    rw [← set_mid (mkC m l.length) l i (by rw [mkC_len]; omega) (by rw [mkC_len]), hL] at h2
    have h3 : (mkC m l.length)[i]'(by rw [mkC_len]; omega) = ⟨m + 3 * i, m + 3 * i + 1, m + 3 * i + 1 + 1⟩ := by
      rw [getElem_getD _ _ z55]
      have := mkC_at m l.length i (by omega)
      unfold rd_T55 at this
      rw [Int.toNat_natCast] at this
      rw [this, show m + 3 * (i : Int) + 1 + 1 = m + 3 * i + 2 by omega]
    rw [h3] at h2
    refine (evEq (g := _) ?_ rfl)
    have e4 : m + 3 * ((i + 1 : Nat) : Int) = m + 3 * (i : Int) + 1 + 1 + 1 := by omega
    rw [e4] at h2
    exact h2
theorem markPuzzle_ev (p : Int) (l : List S55) (hm : l.length ≤ 1048577) : Ev (fun k => laws_markPuzzle.f k p l 1) (1 + 3 * l.length, mkC 1 l.length) := by
  unfold laws_markPuzzle.f laws_markClueS.f
  have h := markClueS_l0 l 1 (by omega) (by omega) l.length 0 (by omega)
  refine Ev.bind (f := fun _ bt => some (bt.1, bt.2)) (a := (1 + 3 * (l.length : Int), mkC 1 l.length)) ?_ (evSome rfl)
  simpa using h
end Go.Proofs.Yticmboabiemniaa.X
end
section
/- Lists of clues: turned, compared, marked and looked at as the laws do. -/
--! needs LBase laws_toClueS laws_eqClueS laws_szPuzzle
namespace Go.Proofs.Yticmboabiemniaa.X
open Go.Proofs.Yticmboabiemniaa.Sq Go.RowKit Go.Proofs.YticmboabiemniaaW.PrintWords Go.Proofs.YticmboabiemniaaW.PrintLast Go.Proofs.YticmboabiemniaaW.PrintMore
attribute [local go_sem] max2_int min2_int max_two min_two max_three min_three max_four min_four   -- for this text's walks alone
set_option linter.unusedVariables false
set_option linter.unusedSimpArgs false
def cvClue (x : S61) : S55 := ⟨x.f0, x.f1, x.f2⟩
theorem toClueS_l0 (l : List S61) (hl : l.length ≤ 1048576) (z : List S55) (hz : z.length = l.length) (d : Nat) : ∀ i : Nat, i + d = l.length →
    Ev (fun k => laws_toClueS.l0 k l ((l.map cvClue).take i ++ z.drop i) (i : Int)) (l.map cvClue) := by
  induction d with
  | zero =>
    intro i hi
    refine Ev.step (fun k => by rw [laws_toClueS.l0]) ?_
    refine evNeg (by omega) (evSome ?_)
    rw [List.take_of_length_le (by simp; omega), List.drop_of_length_le (by omega), List.append_nil]
  | succ d ih =>
    intro i hi
    refine Ev.step (fun k => by rw [laws_toClueS.l0]) ?_
    refine evPos (by omega) (evPos (by omega) ?_)
    unfold laws_toClue.f
    refine evBind0 rfl ?_
    refine evPos (by rw [mid_len _ _ _ (by simp; omega) (by simp; omega)]; simp; omega) ?_
    have h1 := set_mid (l.map cvClue) z i (by simp; omega) (by simp; omega)
    rw [w64 (by omega) (by omega)]
    have h2 := ih (i + 1) (by omega)
    rw [← h1] at h2
    have h3 : (l.map cvClue)[i]'(by simp; omega) = ⟨(rd_T61 l i).f0, (rd_T61 l i).f1, (rd_T61 l i).f2⟩ := by
      rw [List.getElem_map, getElem_getD l i z61 (by omega)]; rfl
    rw [h3] at h2
    exact h2
theorem toClueS_ev (l : List S61) (hl : l.length ≤ 1048576) : Ev (fun k => laws_toClueS.f k l) (l.map cvClue) := by
  unfold laws_toClueS.f
  refine evPos (by omega) (evPos (by omega) ?_)
  have h := toClueS_l0 l hl (List.replicate ((l.length : Int) : Int).toNat z55) (by simp) l.length 0 (by omega)
  simpa using h
theorem toPuzzle_ev (p : Int) (l : List S61) (hl : l.length ≤ 1048576) : Ev (fun k => laws_toPuzzle.f k p l) (p, l.map cvClue) := by
  unfold laws_toPuzzle.f
  exact Ev.bind (toClueS_ev l hl) (evSome rfl)
theorem szPuzzle_eq (p : Int) (l : List S61) (hl : l.length ≤ maxLen) : laws_szPuzzle.f p l 1048576 = some (if 1048576 < l.length then -1 else 1048576 - (l.length : Int)) := by
  unfold maxLen at hl
  unfold laws_szPuzzle.f laws_szClueS.f
  rw [w64 (by omega) (by omega)]
  by_cases h : 1048576 < l.length
  · rw [if_pos (by omega), if_pos h]; rfl
  · rw [if_neg (by omega), if_neg h]
    show (if (1048576 - (l.length : Int)) < 0 then _ else _) = _
    rw [if_neg (by omega)]
theorem eqClue_eq (a b : S55) : laws_eqClue.f a.f0 a.f1 a.f2 b.f0 b.f1 b.f2 = some (decide (a.f0 = b.f0 ∧ a.f1 = b.f1 ∧ a.f2 = b.f2)) := by
  unfold laws_eqClue.f
  by_cases h0 : a.f0 = b.f0 <;> by_cases h1 : a.f1 = b.f1 <;> by_cases h2 : a.f2 = b.f2 <;> simp [h0, h1, h2]
theorem eqClueS_l0 (l : List S55) (hl : l.length ≤ 9223372036854775800) (d : Nat) : ∀ i : Nat, i + d = l.length → Ev (fun k => laws_eqClueS.l0 k l l (i : Int)) true := by
  induction d with
  | zero =>
    intro i hi
    refine Ev.step (fun k => by rw [laws_eqClueS.l0]) ?_
    exact evNeg (by omega) (evSome rfl)
  | succ d ih =>
    intro i hi
    refine Ev.step (fun k => by rw [laws_eqClueS.l0]) ?_
    refine evPos (by omega) (evPos (by omega) (evPos (by omega) ?_))
    refine evBind0 (eqClue_eq _ _) ?_
    refine evPos (by simp) ?_
    rw [w64 (by omega) (by omega)]
    exact ih (i + 1) (by omega)
theorem eqClueS_self (l : List S55) (hl : l.length ≤ 9223372036854775800) : Ev (fun k => laws_eqClueS.f k l l) true := by
  unfold laws_eqClueS.f
  exact evPos rfl (eqClueS_l0 l hl l.length 0 (by omega))
theorem eqPuzzle_self (p : Int) (l : List S55) (hl : l.length ≤ 9223372036854775800) : Ev (fun k => laws_eqPuzzle.f k p l p l) true := by
  unfold laws_eqPuzzle.f
  exact evPos rfl (Ev.bind (eqClueS_self l hl) (evPos rfl (evSome rfl)))
end Go.Proofs.Yticmboabiemniaa.X
end
section
/- What makes a clue, in plain Lean: the program's and the reference's test come to the same. -/
--! needs impl_within spec_l1In impl_IsClue spec_pzClue spec_pzPlaces impl_arePlacesOf
namespace Go.Proofs.Yticmboabiemniaa.X
open Go.Proofs.Yticmboabiemniaa.Sq Go.RowKit Go.Proofs.YticmboabiemniaaW.PrintWords Go.Proofs.YticmboabiemniaaW.PrintLast Go.Proofs.YticmboabiemniaaW.PrintMore
attribute [local go_sem] max2_int min2_int max_two min_two max_three min_three max_four min_four   -- for this text's walks alone
set_option linter.unusedVariables false
set_option linter.unusedSimpArgs false
def inB (a l h : Int) : Bool := decide (l ≤ a) && decide (a ≤ h)
theorem within_eq (a l h : Int) : impl_within.f a l h = some (inB a l h) := by
  unfold impl_within.f inB
  by_cases c : l ≤ a <;> simp [c]
theorem l1In_eq (a l h : Int) : spec_l1In.f a l h = some (inB a l h) := by
  unfold spec_l1In.f inB
  by_cases c : l ≤ a
  · rw [if_pos (by omega)]; simp [c]
  · rw [if_neg (by omega)]; simp [c]
def clueB (p k a b : Int) : Bool :=
  if k = 0 ∨ k = 5 then decide (a = 0) && inB b 0 p else if k = 1 then inB a 1 p && inB b 0 1 else if k = 2 then inB a 1 9 && inB b 0 9 else if k = 3 then decide (a = 0) && inB b 1 9 else if k = 4 then inB a 1 9 && inB b 0 256 else false
theorem pzPlaces_eq (p : Int) : spec_pzPlaces.f p = some (inB p 1 8) := by
  unfold spec_pzPlaces.f
  rw [l1In_eq]; rfl
theorem arePlacesOf_eq (p : Int) : impl_arePlacesOf.f p = some (inB p 1 8) := by
  unfold impl_arePlacesOf.f
  rw [within_eq]; rfl
theorem pzClue_eq (n : Nat) (p k a b : Int) : spec_pzClue.f (n + 1) p k a b = some (clueB p k a b) := by
  unfold spec_pzClue.f clueB
  simp only [spec_pzClue.j0, l1In_eq, Option.bind_some]
  by_cases h0 : k = 0
  · subst h0; by_cases ha : a = 0 <;> simp [ha]
  · by_cases h5 : k = 5
    · subst h5; by_cases ha : a = 0 <;> simp [ha]
    · simp only [h0, h5, if_false, or_false, beq_iff_eq]
      by_cases h1 : k = 1
      · simp only [h1, if_true]; cases inB a 1 p <;> simp
      · by_cases h2 : k = 2
        · subst h2; cases h : inB a 1 9 <;> simp
        · by_cases h3 : k = 3
          · subst h3; by_cases ha : a = 0 <;> simp [ha]
          · by_cases h4 : k = 4
            · subst h4; cases h : inB a 1 9 <;> simp
            · simp [h1, h2, h3, h4]
theorem IsClue_impl (n : Nat) (p k a b : Int) : impl_IsClue.f (n + 1) p k a b = some (inB p 1 8 && clueB p k a b) := by
  unfold impl_IsClue.f clueB
  rw [arePlacesOf_eq]
  cases inB p 1 8
  · simp
  simp only [impl_IsClue.j0, within_eq, Option.bind_some, if_true, Bool.true_and]
  by_cases h0 : k = 0
  · subst h0; by_cases ha : a = 0 <;> simp [ha]
  · by_cases h5 : k = 5
    · subst h5; by_cases ha : a = 0 <;> simp [ha]
    · simp only [h0, h5, if_false, or_false, beq_iff_eq]
      by_cases h1 : k = 1
      · simp only [h1, if_true]; cases inB a 1 p <;> simp
      · by_cases h2 : k = 2
        · subst h2; cases h : inB a 1 9 <;> simp
        · by_cases h3 : k = 3
          · subst h3; by_cases ha : a = 0 <;> simp [ha]
          · by_cases h4 : k = 4
            · subst h4; cases h : inB a 1 9 <;> simp
            · simp [h1, h2, h3, h4]
end Go.Proofs.Yticmboabiemniaa.X
end
section
/- What makes a puzzle: the program's and the reference's test come to the same. -/
--! needs LBase LPzClue spec_pzGood impl_IsPuzzle_1 impl_IsPuzzle
namespace Go.Proofs.Yticmboabiemniaa.X
open Go.Proofs.Yticmboabiemniaa.Sq Go.RowKit Go.Proofs.YticmboabiemniaaW.PrintWords Go.Proofs.YticmboabiemniaaW.PrintLast Go.Proofs.YticmboabiemniaaW.PrintMore
attribute [local go_sem] max2_int min2_int max_two min_two max_three min_three max_four min_four   -- for this text's walks alone
set_option linter.unusedVariables false
set_option linter.unusedSimpArgs false
def okClue (p : Int) (c : S55) : Bool := clueB p c.f0 c.f1 c.f2
def goodB (p : Int) (l : List S55) : Bool := inB p 1 8 && decide (l.length ≤ 6) && l.all (okClue p)
theorem pzGood_l0 (p : Int) (l : List S55) (hl : l.length ≤ 6) (d : Nat) : ∀ i : Nat, i + d = l.length → Ev (fun k => spec_pzGood.l0 k l (l.length : Int) (i : Int) p l) ((l.drop i).all (okClue p)) := by
  induction d with
  | zero =>
    intro i hi
    refine Ev.step (fun k => by rw [spec_pzGood.l0]) ?_
    refine evNeg (by omega) (evSome ?_)
    rw [List.drop_of_length_le (by omega)]; rfl
  | succ d ih =>
    intro i hi
    refine Ev.step (fun k => by rw [spec_pzGood.l0]) ?_
    refine evPos (by omega) (evPos (by omega) (evPos (by omega) ?_))
    refine Ev.bind (a := okClue p (rd_T55 l i)) ⟨1, fun k hk => by obtain ⟨m, rfl⟩ : ∃ m, k = m + 1 := ⟨k - 1, by omega⟩; exact pzClue_eq m _ _ _ _⟩ ?_
    have hd : l.drop i = rd_T55 l i :: l.drop (i + 1) := getD_drop_cons l i z55 (by omega)
    cases hb : okClue p (rd_T55 l i) with
    | true =>
      refine evPos rfl ?_
      rw [w64 (by omega) (by omega)]
      refine evEq (ih (i + 1) (by omega)) ?_
      rw [hd, List.all_cons, hb]; rfl
    | false =>
      refine evNeg (by simp) (evSome ?_)
      rw [hd, List.all_cons, hb]; rfl
theorem pzGood_ev (p : Int) (l : List S55) : Ev (fun k => spec_pzGood.f k p l) (goodB p l) := by
  unfold spec_pzGood.f goodB
  refine evBind0 (pzPlaces_eq p) ?_
  cases hp : inB p 1 8 with
  | false =>
    refine evNeg (by simp) ?_
    refine Ev.step (fun k => by rw [spec_pzGood.j0]) ?_
    exact evPos rfl (evSome rfl)
  | true =>
    refine evPos rfl ?_
    refine Ev.step (fun k => by rw [spec_pzGood.j0]) ?_
    by_cases h : l.length ≤ 6
    · refine evNeg (by simp; omega) ?_
      refine evEq (pzGood_l0 p l h l.length 0 (by omega)) ?_
      simp [h]
    · refine evPos (by simp; omega) (evSome ?_)
      simp [h]
theorem IsPuzzle_1_ev (p : Int) (l : List S55) (c : S55) (hp : inB p 1 8 = true) : Ev (fun k => impl_IsPuzzle_1.f k c.f0 c.f1 c.f2 p l) (!okClue p c) := by
  unfold impl_IsPuzzle_1.f
  refine Ev.bind (a := okClue p c) ⟨1, fun k hk => by obtain ⟨m, rfl⟩ : ∃ m, k = m + 1 := ⟨k - 1, by omega⟩; show impl_IsClue.f (m + 1) p c.f0 c.f1 c.f2 = _; rw [IsClue_impl m, hp]; rfl⟩ (evSome rfl)
theorem IndexIsPuzzle_l0 (p : Int) (q l : List S55) (hp : inB p 1 8 = true) (hl : l.length ≤ 6) (d : Nat) : ∀ i : Nat, i + d = l.length →
    ∃ r, Ev (fun k => slices_IndexFunc_Clue__IsPuzzle_1.l0 k l (l.length : Int) (i : Int) p q) r ∧ (decide (r ≥ 0) = !(l.drop i).all (okClue p)) := by
  induction d with
  | zero =>
    intro i hi
    refine ⟨-1, ?_, ?_⟩
    · refine Ev.step (fun k => by rw [slices_IndexFunc_Clue__IsPuzzle_1.l0]) ?_
      exact evNeg (by omega) (evSome rfl)
    · rw [List.drop_of_length_le (by omega)]; rfl
  | succ d ih =>
    intro i hi
    have hd : l.drop i = rd_T55 l i :: l.drop (i + 1) := getD_drop_cons l i z55 (by omega)
    have h1 := IsPuzzle_1_ev p q (rd_T55 l i) hp
    cases hb : okClue p (rd_T55 l i) with
    | true =>
      obtain ⟨r, hr, hr2⟩ := ih (i + 1) (by omega)
      rw [hb] at h1
      refine ⟨r, ?_, ?_⟩
      · refine Ev.step (fun k => by rw [slices_IndexFunc_Clue__IsPuzzle_1.l0]) ?_
        refine evPos (by omega) (evPos (by omega) (evPos (by omega) ?_))
        refine Ev.bind h1 ?_
        refine evNeg (by simp) ?_
        rw [w64 (by omega) (by omega)]
        exact hr
      · rw [hr2, hd, List.all_cons, hb]; rfl
    | false =>
      rw [hb] at h1
      refine ⟨(i : Int), ?_, ?_⟩
      · refine Ev.step (fun k => by rw [slices_IndexFunc_Clue__IsPuzzle_1.l0]) ?_
        refine evPos (by omega) (evPos (by omega) (evPos (by omega) ?_))
        refine Ev.bind h1 ?_
        exact evPos (by simp) (evSome rfl)
      · rw [hd, List.all_cons, hb]
        simp
theorem IsPuzzle_impl (p : Int) (l : List S55) : Ev (fun k => impl_IsPuzzle.f k p l) (goodB p l) := by
  unfold impl_IsPuzzle.f goodB
  refine evBind0 (arePlacesOf_eq p) ?_
  cases hp : inB p 1 8 with
  | false => exact evNeg (by simp) (evSome rfl)
  | true =>
    refine evPos rfl ?_
    by_cases h : l.length ≤ 6
    · refine evPos (by omega) ?_
      obtain ⟨r, hr, hr2⟩ := IndexIsPuzzle_l0 p l l hp h l.length 0 (by omega)
      unfold slices_ContainsFunc_Clue__IsPuzzle_1.f slices_IndexFunc_Clue__IsPuzzle_1.f
      refine Ev.bind (Ev.bind hr (evSome rfl)) (evSome ?_)
      rw [hr2]
      simp [h]
    · refine evNeg (by omega) (evSome ?_)
      simp [h]
end Go.Proofs.Yticmboabiemniaa.X
end
section
/- A clue struck out: the program and the reference. -/
--! needs LBase LPzClue LPzGood spec_pzWithout impl_dropped
namespace Go.Proofs.Yticmboabiemniaa.X
open Go.Proofs.Yticmboabiemniaa.Sq Go.RowKit Go.Proofs.YticmboabiemniaaW.PrintWords Go.Proofs.YticmboabiemniaaW.PrintLast Go.Proofs.YticmboabiemniaaW.PrintMore
attribute [local go_sem] max2_int min2_int max_two min_two max_three min_three max_four min_four   -- for this text's walks alone
set_option linter.unusedVariables false
set_option linter.unusedSimpArgs false
theorem goodB_len (p : Int) (l : List S55) (h : goodB p l = true) : l.length ≤ 6 := by
  unfold goodB at h
  simp only [Bool.and_eq_true, decide_eq_true_eq] at h
  exact h.1.2
theorem pzWithout_eq (l : List S55) (k : Int) (hl : l.length ≤ 6) (h0 : 0 ≤ k) (h1 : k < (l.length : Int)) : spec_pzWithout.f l k = some (l.eraseIdx k.toNat) := by
  unfold spec_pzWithout.f
  simp only [Option.bind_some]
  rw [w64 (x := k + 1) (by omega) (by omega), if_pos h0, if_pos (by omega), if_pos (by simp; omega), if_pos (by omega), if_pos (by omega), if_pos (by simp; omega)]
  rw [List.nil_append, List.eraseIdx_eq_take_drop_succ, show (k + 1).toNat = k.toNat + 1 by omega]
theorem dropped_eq (l : List S55) (k : Int) (hl : l.length ≤ 6) (h0 : 0 ≤ k) (h1 : k < (l.length : Int)) : impl_dropped.f l k = some (l.eraseIdx k.toNat) := by
  have hc : slices_Clone_Clue.f l = some l := by
    unfold slices_Clone_Clue.f
    simp
    omega
  unfold impl_dropped.f
  rw [hc]
  simp only [Option.bind_some]
  unfold slices_Delete_Clue.f
  rw [w64 (x := k + 1) (by omega) (by omega), if_pos ⟨h0, rfl, by omega⟩]
  rfl
theorem good_erase (q : Int) (l : List S55) (hg : goodB q l = true) (i : Nat) : goodB q (l.eraseIdx i) = true := by
  unfold goodB at hg ⊢
  simp only [Bool.and_eq_true, decide_eq_true_eq, List.all_eq_true] at hg ⊢
  refine ⟨⟨hg.1.1, ?_⟩, fun c hc => hg.2 c (List.mem_of_mem_eraseIdx hc)⟩
  have := List.length_eraseIdx_le l i
  omega
end Go.Proofs.Yticmboabiemniaa.X
end
