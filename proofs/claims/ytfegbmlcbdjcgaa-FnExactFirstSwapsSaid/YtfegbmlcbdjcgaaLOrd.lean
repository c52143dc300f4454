/- What makes an order: the program and the reference. -/
--! needs LBase impl_IsOrder spec_l1In spec_l1All spec_l1Has spec_ptGood
import Derived.Test.YtfegbmlcbdjcgaaX0
import Derived.Test.YtfegbmlcbdjcgaaX1
import Derived.Test.YtfegbmlcbdjcgaaX2
import Derived.Test.YtfegbmlcbdjcgaaEIsOrder
import Derived.Test.YtfegbmlcbdjcgaaLBase
namespace Go.Proofs.Ytfegbmlcbdjcgaa.X
open Go.Proofs.Ytfegbmlcbdjcgaa.Sq Go.RowKit Go.Proofs.YtfegbmlcbdjcgaaW.PrintWords Go.Proofs.YtfegbmlcbdjcgaaW.PrintLast Go.Proofs.YtfegbmlcbdjcgaaW.PrintMore
attribute [local go_sem] max2_int min2_int max_two min_two max_three min_three max_four min_four   -- for this text's walks alone
set_option linter.unusedVariables false
set_option linter.unusedSimpArgs false

open List in
theorem perm_of_len : ∀ (l m : List Int), l.Nodup → (∀ x ∈ l, x ∈ m) → m.length ≤ l.length → l ~ m
 | [], m, _, _, h => by
  obtain rfl : m = [] := List.eq_nil_of_length_eq_zero (by simpa using h)
  exact Perm.refl _
 | a :: l, m, hn, hs, h => by
  have ha : a ∈ m := hs a (List.mem_cons_self ..)
  have hn2 := List.nodup_cons.1 hn
  have hl := perm_of_len l (m.erase a) hn2.2 (fun x hx => by
    have hne : x ≠ a := fun e => hn2.1 (e ▸ hx)
    exact (List.mem_erase_of_ne hne).2 (hs x (List.mem_cons_of_mem _ hx))) (by
    rw [List.length_erase_of_mem ha]
    simp at h
    omega)
  exact (Perm.cons a hl).trans (perm_cons_erase ha).symm
def upL (n : Nat) : List Int := (List.range n).map fun (i : Nat) => (i : Int) + 1
theorem upL_len (n : Nat) : (upL n).length = n := by simp [upL]
theorem upL_mem (n : Nat) (x : Int) : x ∈ upL n ↔ 1 ≤ x ∧ x ≤ n := by
  unfold upL
  simp only [List.mem_map, List.mem_range]
  constructor
  · rintro ⟨i, hi, rfl⟩
    omega
  · intro h
    exact ⟨(x - 1).toNat, by omega, by omega⟩
theorem upL_lt (n : Nat) : (upL n).Pairwise (· < ·) := by
  unfold upL
  rw [List.pairwise_map]
  exact List.pairwise_lt_range.imp (fun h => by omega)
theorem upL_nodup (n : Nat) : (upL n).Nodup := (upL_lt n).imp (fun h => by omega)
theorem isoUp_iff (s : List Int) (n : Nat) (h : s.length = n) : isoUp s n ↔ s = upL n := by
  constructor
  · intro hu
    apply List.ext_getElem
    · rw [h, upL_len]
    · intro i h1 h2
      have := hu i (by omega)
      rw [List.getD_eq_getElem?_getD, List.getElem?_eq_getElem h1] at this
      simp only [Option.getD_some] at this
      rw [this]
      simp [upL]
  · rintro rfl i hi
    rw [List.getD_eq_getElem?_getD, List.getElem?_eq_getElem (by rw [upL_len]; exact hi)]
    simp [upL]
open List in
theorem iso_iff (l : List Int) : isoUp (isoS l) l.length ↔ (∀ x ∈ l, 1 ≤ x ∧ x ≤ (l.length : Int)) ∧ l.Nodup := by
  rw [isoUp_iff _ _ (isoS_len l)]
  have hp : isoS l ~ l := List.mergeSort_perm l _
  constructor
  · intro h
    rw [h] at hp
    exact ⟨fun x hx => (upL_mem _ x).1 (hp.mem_iff.2 hx), hp.nodup (upL_nodup _)⟩
  · rintro ⟨h1, h2⟩
    have hq : l ~ upL l.length := perm_of_len l _ h2 (fun x hx => (upL_mem _ x).2 (h1 x hx)) (by rw [upL_len]; exact Nat.le_refl _)
    have hs : (isoS l).Pairwise (fun a b => a ≤ b) := by
      have := List.pairwise_mergeSort (le := fun (x y : Int) => decide (x ≤ y)) (fun a b c h1 h2 => by simp at *; omega) (fun a b => by simp; omega) l
      exact this.imp (fun h => by simpa using h)
    exact (hp.trans hq).eq_of_pairwise (fun a b _ _ h1 h2 => Int.le_antisymm h1 h2) hs ((upL_lt _).imp (fun h => Int.le_of_lt h))
def ordB (l : List Int) : Bool := decide (isoUp (isoS l) l.length) && decide (1 ≤ l.length ∧ l.length ≤ 8)
theorem IsOrder_eq (l : List Int) (h : l.length ≤ 1000000000000) : impl_IsOrder.f l = some (ordB l) := by
  unfold impl_IsOrder.f
  rw [if_pos h]
  rfl
def inO (a l h : Int) : Bool := decide (l ≤ a) && decide (a ≤ h)
theorem l1In_o (a l h : Int) : spec_l1In.f a l h = some (inO a l h) := by
  unfold spec_l1In.f inO
  by_cases c : l ≤ a
  · rw [if_pos (by omega)]; simp [c]
  · rw [if_neg (by omega)]; simp [c]
theorem i1o (x : Nat) (h : x ≤ 1000) : wrap64 ((x : Int) + 1) = ((x + 1 : Nat) : Int) := (w64 (by omega) (by omega)).trans (by omega)
theorem l1Has_l0 (x : Int) (l : List Int) (hl : l.length ≤ 100) (e : Nat) : ∀ i : Nat, i + e = l.length → Ev (fun k => spec_l1Has.l0 k x l (l.length : Int) (i : Int)) (decide (x ∈ l.drop i)) := by
  induction e with
  | zero =>
    intro i hi
    refine Ev.step (fun k => by rw [spec_l1Has.l0]) ?_
    refine evNeg (by omega) (evSome ?_)
    rw [List.drop_of_length_le (by omega)]
    simp
  | succ e ih =>
    intro i hi
    refine Ev.step (fun k => by rw [spec_l1Has.l0]) ?_
    rw [i1o i (by omega), getD_drop_cons l i 0 (by omega)]
    have hr : rd l (i : Int) = l.getD i 0 := by unfold rd; rw [Int.toNat_natCast]
    rw [hr]
    refine evPos (by omega) (evPos (by omega) (evPos (by omega) (evSplit (fun c => ?_) (fun c => ?_))))
    · exact evSome (by rw [c]; simp)
    · refine evEq (ih (i + 1) (by omega)) ?_
      have : ¬ x = l.getD i 0 := fun e => c e.symm
      simp only [List.mem_cons, this, false_or]
theorem l1Has_ev (x : Int) (l : List Int) (hl : l.length ≤ 100) : Ev (fun k => spec_l1Has.f k l x) (decide (x ∈ l)) := by
  unfold spec_l1Has.f
  have h := l1Has_l0 x l hl l.length 0 (Nat.zero_add _)
  rw [List.drop_zero] at h
  exact h
theorem l1All_l0 (a b : Int) (l : List Int) (hl : l.length ≤ 100) (e : Nat) : ∀ i : Nat, i + e = l.length → Ev (fun k => spec_l1All.l0 k a b l (l.length : Int) (i : Int)) ((l.drop i).all fun x => inO x a b) := by
  induction e with
  | zero =>
    intro i hi
    refine Ev.step (fun k => by rw [spec_l1All.l0]) ?_
    refine evNeg (by omega) (evSome ?_)
    rw [List.drop_of_length_le (by omega)]
    rfl
  | succ e ih =>
    intro i hi
    refine Ev.step (fun k => by rw [spec_l1All.l0]) ?_
    rw [i1o i (by omega), getD_drop_cons l i 0 (by omega), List.all_cons]
    have hr : rd l (i : Int) = l.getD i 0 := by unfold rd; rw [Int.toNat_natCast]
    rw [hr]
    refine evPos (by omega) (evPos (by omega) (evPos (by omega) (evBind0 (l1In_o _ _ _) ?_)))
    cases inO (l.getD i 0) a b with
    | true => exact evPos rfl (by simpa using ih (i + 1) (by omega))
    | false => exact evNeg (by simp) (evSome rfl)
/-- From place i on none comes twice. -/
def freshB (l : List Int) : Nat → Nat → Bool
 | _, 0 => true
 | i, e + 1 => !decide (l.getD i 0 ∈ l.take i) && freshB l (i + 1) e
theorem fresh_iff (l : List Int) (e : Nat) : ∀ i : Nat, i + e = l.length → (l.take i).Nodup → (freshB l i e = true ↔ l.Nodup) := by
  induction e with
  | zero =>
    intro i hi hn
    rw [List.take_of_length_le (by omega)] at hn
    exact ⟨fun _ => hn, fun _ => rfl⟩
  | succ e ih =>
    intro i hi hn
    have ht : l.take (i + 1) = l.take i ++ [l.getD i 0] := by
      rw [List.take_succ_eq_append_getElem (by omega), getElem_getD l i 0 (by omega)]
    show (!decide (l.getD i 0 ∈ l.take i) && freshB l (i + 1) e) = true ↔ _
    by_cases hm : l.getD i 0 ∈ l.take i
    · rw [decide_eq_true hm]
      refine ⟨fun h => by simp at h, fun h => ?_⟩
      have h2 : (l.take (i + 1)).Nodup := h.sublist (List.take_sublist _ _)
      rw [ht, List.nodup_append] at h2
      exact absurd rfl (h2.2.2 _ hm _ (List.mem_singleton.2 rfl))
    · rw [decide_eq_false hm]
      have h2 : (l.take (i + 1)).Nodup := by
        rw [ht, List.nodup_append]
        exact ⟨hn, by simp, fun a ha b hb e => hm (by rw [← List.mem_singleton.1 hb, ← e]; exact ha)⟩
      simpa using ih (i + 1) (by omega) h2
theorem ptGood_l0 (l : List Int) (hl : l.length ≤ 8) (e : Nat) : ∀ i : Nat, i + e = l.length → Ev (fun k => spec_ptGood.l0 k l l (l.length : Int) (i : Int)) (freshB l i e) := by
  induction e with
  | zero =>
    intro i hi
    refine Ev.step (fun k => by rw [spec_ptGood.l0]) ?_
    exact evNeg (by omega) (evSome rfl)
  | succ e ih =>
    intro i hi
    refine Ev.step (fun k => by rw [spec_ptGood.l0]) ?_
    have hr : rd l (i : Int) = l.getD i 0 := by unfold rd; rw [Int.toNat_natCast]
    rw [i1o i (by omega), hr, Int.toNat_natCast]
    refine evPos (by omega) (evPos (by omega) (evPos (by omega) (evPos (by omega) (Ev.bind (l1Has_ev _ _ (by rw [List.length_take]; omega)) ?_))))
    show Ev _ (!decide (l.getD i 0 ∈ l.take i) && freshB l (i + 1) e)
    cases decide (l.getD i 0 ∈ l.take i) with
    | true => exact evPos rfl (evSome rfl)
    | false => exact evNeg (by simp) (by simpa using ih (i + 1) (by omega))
theorem ptGood_ev (l : List Int) : Ev (fun k => spec_ptGood.f k l) (ordB l) := by
  unfold spec_ptGood.f
  refine evBind0 (l1In_o _ _ _) ?_
  by_cases hn : 1 ≤ l.length ∧ l.length ≤ 8
  · have h1 : inO (l.length : Int) 1 8 = true := by unfold inO; rw [decide_eq_true (by omega), decide_eq_true (by omega)]; rfl
    rw [h1]
    have hA := l1All_l0 1 (l.length : Int) l (by omega) l.length 0 (Nat.zero_add _)
    rw [List.drop_zero] at hA
    unfold spec_l1All.f
    refine evPos rfl (Ev.bind hA ?_)
    refine Ev.step (fun k => by rw [spec_ptGood.j0]) ?_
    have hiff := iso_iff l
    have hall : (l.all fun x => inO x 1 (l.length : Int)) = true ↔ ∀ x ∈ l, 1 ≤ x ∧ x ≤ (l.length : Int) := by
      rw [List.all_eq_true]
      exact ⟨fun h x hx => by have := h x hx; unfold inO at this; simpa using this, fun h x hx => by have := h x hx; unfold inO; simpa using this⟩
    have hf := fresh_iff l l.length 0 (Nat.zero_add _) (by simp)
    unfold ordB
    rw [decide_eq_true hn, Bool.and_true]
    cases hb : l.all fun x => inO x 1 (l.length : Int) with
    | false =>
      refine evPos rfl (evSome ?_)
      rw [decide_eq_false (fun h => by have := hall.2 (hiff.1 h).1; rw [hb] at this; cases this)]
    | true =>
      refine evNeg (by simp) (evEq (ptGood_l0 l hn.2 l.length 0 (Nat.zero_add _)) ?_)
      cases hfb : freshB l 0 l.length with
      | true => rw [decide_eq_true (hiff.2 ⟨hall.1 hb, hf.1 hfb⟩)]
      | false => rw [decide_eq_false (fun h => by have := hf.2 (hiff.1 h).2; rw [hfb] at this; cases this)]
  · have h1 : inO (l.length : Int) 1 8 = false := by
      unfold inO
      by_cases h1 : 1 ≤ l.length
      · rw [decide_eq_false (show ¬ (l.length : Int) ≤ 8 by omega), Bool.and_false]
      · rw [decide_eq_false (show ¬ (1 : Int) ≤ (l.length : Int) by omega), Bool.false_and]
    rw [h1]
    refine evNeg (by simp) (Ev.step (fun k => by rw [spec_ptGood.j0]) ?_)
    refine evPos rfl (evSome ?_)
    unfold ordB
    rw [decide_eq_false hn, Bool.and_false]
theorem ordB_len (l : List Int) (h : ordB l = true) : 1 ≤ l.length ∧ l.length ≤ 8 := by
  unfold ordB at h
  simp only [Bool.and_eq_true, decide_eq_true_eq] at h
  exact h.2
end Go.Proofs.Ytfegbmlcbdjcgaa.X
