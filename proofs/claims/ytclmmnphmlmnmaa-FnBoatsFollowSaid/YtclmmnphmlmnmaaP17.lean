import Derived.Test.YtclmmnphmlmnmaaP4
import Derived.Test.YtclmmnphmlmnmaaP5
import Derived.Test.YtclmmnphmlmnmaaP6
import Derived.Test.YtclmmnphmlmnmaaP7
import Derived.Test.YtclmmnphmlmnmaaP8
import Derived.Test.YtclmmnphmlmnmaaP9
import Derived.Test.YtclmmnphmlmnmaaP10
import Derived.Test.YtclmmnphmlmnmaaP12
import Derived.Test.YtclmmnphmlmnmaaP13
import Derived.Test.YtclmmnphmlmnmaaP14
import Derived.Test.YtclmmnphmlmnmaaP16
import Derived.Laws.BitsLemmas
import Derived.Laws.Bits64
section
/- What makes an order: the program and the reference. -/
--! needs LBase impl_IsOrder spec_l1In spec_l1All spec_l1Has spec_ptGood
namespace Go.Proofs.Ytclmmnphmlmnmaa.X
open Go.Proofs.Ytclmmnphmlmnmaa.Sq Go.RowKit Go.Proofs.YtclmmnphmlmnmaaW.PrintWords Go.Proofs.YtclmmnphmlmnmaaW.PrintLast Go.Proofs.YtclmmnphmlmnmaaW.PrintMore
attribute [local go_sem] max2_int min2_int max_two min_two max_three min_three max_four min_four   -- for this text's walks alone
set_option linter.unusedVariables false
set_option linter.unusedSimpArgs false
open List in
theorem perm_of_len : ∀ (l m : List Int), l.Nodup → (∀ x ∈ l, x ∈ m) → m.length ≤ l.length → l ~ m
 | [], m, _, _, h => by
  obtain rfl : m = [] := List.eq_nil_of_length_eq_zero (by simpa using h)
  exact Perm.refl _
 | a :: l, m, hn, hs, h => by
  have ha : a ∈ m := hs a (List.mem_cons_self ..)
  have hn2 := List.nodup_cons.1 hn
  have hl := perm_of_len l (m.erase a) hn2.2 (fun x hx => by
    have hne : x ≠ a := fun e => hn2.1 (e ▸ hx)
    exact (List.mem_erase_of_ne hne).2 (hs x (List.mem_cons_of_mem _ hx))) (by
    rw [List.length_erase_of_mem ha]
    simp at h
    omega)
  exact (Perm.cons a hl).trans (perm_cons_erase ha).symm
def upL (n : Nat) : List Int := (List.range n).map fun (i : Nat) => (i : Int) + 1
theorem upL_len (n : Nat) : (upL n).length = n := by simp [upL]
theorem upL_mem (n : Nat) (x : Int) : x ∈ upL n ↔ 1 ≤ x ∧ x ≤ n := by
  unfold upL
  simp only [List.mem_map, List.mem_range]
  constructor
  · rintro ⟨i, hi, rfl⟩
    omega
  · intro h
    exact ⟨(x - 1).toNat, by omega, by omega⟩
theorem upL_lt (n : Nat) : (upL n).Pairwise (· < ·) := by
  unfold upL
  rw [List.pairwise_map]
  exact List.pairwise_lt_range.imp (fun h => by omega)
theorem upL_nodup (n : Nat) : (upL n).Nodup := (upL_lt n).imp (fun h => by omega)
theorem isoUp_iff (s : List Int) (n : Nat) (h : s.length = n) : isoUp s n ↔ s = upL n := by
  constructor
  · intro hu
    apply List.ext_getElem
    · rw [h, upL_len]
    · intro i h1 h2
      have := hu i (by omega)
      rw [List.getD_eq_getElem?_getD, List.getElem?_eq_getElem h1] at this
      simp only [Option.getD_some] at this
      rw [this]
      simp [upL]
  · rintro rfl i hi
    rw [List.getD_eq_getElem?_getD, List.getElem?_eq_getElem (by rw [upL_len]; exact hi)]
    simp [upL]
open List in
theorem iso_iff (l : List Int) : isoUp (isoS l) l.length ↔ (∀ x ∈ l, 1 ≤ x ∧ x ≤ (l.length : Int)) ∧ l.Nodup := by
  rw [isoUp_iff _ _ (isoS_len l)]
  have hp : isoS l ~ l := List.mergeSort_perm l _
  constructor
  · intro h
    rw [h] at hp
    exact ⟨fun x hx => (upL_mem _ x).1 (hp.mem_iff.2 hx), hp.nodup (upL_nodup _)⟩
  · rintro ⟨h1, h2⟩
    have hq : l ~ upL l.length := perm_of_len l _ h2 (fun x hx => (upL_mem _ x).2 (h1 x hx)) (by rw [upL_len]; exact Nat.le_refl _)
    have hs : (isoS l).Pairwise (fun a b => a ≤ b) := by
      have := List.pairwise_mergeSort (le := fun (x y : Int) => decide (x ≤ y)) (fun a b c h1 h2 => by simp at *; omega) (fun a b => by simp; omega) l
      exact this.imp (fun h => by simpa using h)
    exact (hp.trans hq).eq_of_pairwise (fun a b _ _ h1 h2 => Int.le_antisymm h1 h2) hs ((upL_lt _).imp (fun h => Int.le_of_lt h))
def ordB (l : List Int) : Bool := decide (isoUp (isoS l) l.length) && decide (1 ≤ l.length ∧ l.length ≤ 8)
theorem IsOrder_eq (l : List Int) (h : l.length ≤ 1000000000000) : impl_IsOrder.f l = some (ordB l) := by
  unfold impl_IsOrder.f
  rw [if_pos h]
  rfl
def inO (a l h : Int) : Bool := decide (l ≤ a) && decide (a ≤ h)
theorem l1In_o (a l h : Int) : spec_l1In.f a l h = some (inO a l h) := by
  unfold spec_l1In.f inO
  by_cases c : l ≤ a
  · rw [if_pos (by omega)]; simp [c]
  · rw [if_neg (by omega)]; simp [c]
theorem i1o (x : Nat) (h : x ≤ 1000) : wrap64 ((x : Int) + 1) = ((x + 1 : Nat) : Int) := (w64 (by omega) (by omega)).trans (by omega)
theorem l1Has_l0 (x : Int) (l : List Int) (hl : l.length ≤ 100) (e : Nat) : ∀ i : Nat, i + e = l.length → Ev (fun k => spec_l1Has.l0 k x l (l.length : Int) (i : Int)) (decide (x ∈ l.drop i)) := by
  induction e with
  | zero =>
    intro i hi
    refine Ev.step (fun k => by rw [spec_l1Has.l0]) ?_
    refine evNeg (by omega) (evSome ?_)
    rw [List.drop_of_length_le (by omega)]
    simp
  | succ e ih =>
    intro i hi
    refine Ev.step (fun k => by rw [spec_l1Has.l0]) ?_
    rw [i1o i (by omega), getD_drop_cons l i 0 (by omega)]
    have hr : rd l (i : Int) = l.getD i 0 := by unfold rd; rw [Int.toNat_natCast]
    rw [hr]
    refine evPos (by omega) (evPos (by omega) (evPos (by omega) (evSplit (fun c => ?_) (fun c => ?_))))
    · exact evSome (by rw [c]; simp)
    · refine evEq (ih (i + 1) (by omega)) ?_
      have : ¬ x = l.getD i 0 := fun e => c e.symm
      simp only [List.mem_cons, this, false_or]
theorem l1Has_ev (x : Int) (l : List Int) (hl : l.length ≤ 100) : Ev (fun k => spec_l1Has.f k l x) (decide (x ∈ l)) := by
  unfold spec_l1Has.f
  have h := l1Has_l0 x l hl l.length 0 (Nat.zero_add _)
  rw [List.drop_zero] at h
  exact h
theorem l1All_l0 (a b : Int) (l : List Int) (hl : l.length ≤ 100) (e : Nat) : ∀ i : Nat, i + e = l.length → Ev (fun k => spec_l1All.l0 k a b l (l.length : Int) (i : Int)) ((l.drop i).all fun x => inO x a b) := by
  induction e with
  | zero =>
    intro i hi
    refine Ev.step (fun k => by rw [spec_l1All.l0]) ?_
    refine evNeg (by omega) (evSome ?_)
    rw [List.drop_of_length_le (by omega)]
    rfl
  | succ e ih =>
    intro i hi
    refine Ev.step (fun k => by rw [spec_l1All.l0]) ?_
    rw [i1o i (by omega), getD_drop_cons l i 0 (by omega), List.all_cons]
    have hr : rd l (i : Int) = l.getD i 0 := by unfold rd; rw [Int.toNat_natCast]
    rw [hr]
    refine evPos (by omega) (evPos (by omega) (evPos (by omega) (evBind0 (l1In_o _ _ _) ?_)))
    cases inO (l.getD i 0) a b with
    | true => exact evPos rfl (by simpa using ih (i + 1) (by omega))
    | false => exact evNeg (by simp) (evSome rfl)
/-- From place i on none comes twice. -/
def freshB (l : List Int) : Nat → Nat → Bool
 | _, 0 => true
 | i, e + 1 => !decide (l.getD i 0 ∈ l.take i) && freshB l (i + 1) e
theorem fresh_iff (l : List Int) (e : Nat) : ∀ i : Nat, i + e = l.length → (l.take i).Nodup → (freshB l i e = true ↔ l.Nodup) := by
  induction e with
  | zero =>
    intro i hi hn
    rw [List.take_of_length_le (by omega)] at hn
    exact ⟨fun _ => hn, fun _ => rfl⟩
  | succ e ih =>
    intro i hi hn
    have ht : l.take (i + 1) = l.take i ++ [l.getD i 0] := by
      rw [List.take_succ_eq_append_getElem (by omega), getElem_getD l i 0 (by omega)]
    show (!decide (l.getD i 0 ∈ l.take i) && freshB l (i + 1) e) = true ↔ _
    by_cases hm : l.getD i 0 ∈ l.take i
    · rw [decide_eq_true hm]
      refine ⟨fun h => by simp at h, fun h => ?_⟩
      have h2 : (l.take (i + 1)).Nodup := h.sublist (List.take_sublist _ _)
      rw [ht, List.nodup_append] at h2
      exact absurd rfl (h2.2.2 _ hm _ (List.mem_singleton.2 rfl))
    · rw [decide_eq_false hm]
      have h2 : (l.take (i + 1)).Nodup := by
        rw [ht, List.nodup_append]
        exact ⟨hn, by simp, fun a ha b hb e => hm (by rw [← List.mem_singleton.1 hb, ← e]; exact ha)⟩
      simpa using ih (i + 1) (by omega) h2
theorem ptGood_l0 (l : List Int) (hl : l.length ≤ 8) (e : Nat) : ∀ i : Nat, i + e = l.length → Ev (fun k => spec_ptGood.l0 k l l (l.length : Int) (i : Int)) (freshB l i e) := by
  induction e with
  | zero =>
    intro i hi
    refine Ev.step (fun k => by rw [spec_ptGood.l0]) ?_
    exact evNeg (by omega) (evSome rfl)
  | succ e ih =>
    intro i hi
    refine Ev.step (fun k => by rw [spec_ptGood.l0]) ?_
    have hr : rd l (i : Int) = l.getD i 0 := by unfold rd; rw [Int.toNat_natCast]
    rw [i1o i (by omega), hr, Int.toNat_natCast]
    refine evPos (by omega) (evPos (by omega) (evPos (by omega) (evPos (by omega) (Ev.bind (l1Has_ev _ _ (by rw [List.length_take]; omega)) ?_))))
    show Ev _ (!decide (l.getD i 0 ∈ l.take i) && freshB l (i + 1) e)
    cases decide (l.getD i 0 ∈ l.take i) with
    | true => exact evPos rfl (evSome rfl)
    | false => exact evNeg (by simp) (by simpa using ih (i + 1) (by omega))
theorem ptGood_ev (l : List Int) : Ev (fun k => spec_ptGood.f k l) (ordB l) := by
  unfold spec_ptGood.f
  refine evBind0 (l1In_o _ _ _) ?_
  by_cases hn : 1 ≤ l.length ∧ l.length ≤ 8
  · have h1 : inO (l.length : Int) 1 8 = true := by unfold inO; rw [decide_eq_true (by omega), decide_eq_true (by omega)]; rfl
    rw [h1]
    have hA := l1All_l0 1 (l.length : Int) l (by omega) l.length 0 (Nat.zero_add _)
    rw [List.drop_zero] at hA
    unfold spec_l1All.f
    refine evPos rfl (Ev.bind hA ?_)
    refine Ev.step (fun k => by rw [spec_ptGood.j0]) ?_
    have hiff := iso_iff l
    have hall : (l.all fun x => inO x 1 (l.length : Int)) = true ↔ ∀ x ∈ l, 1 ≤ x ∧ x ≤ (l.length : Int) := by
      rw [List.all_eq_true]
      exact ⟨fun h x hx => by have := h x hx; unfold inO at this; simpa using this, fun h x hx => by have := h x hx; unfold inO; simpa using this⟩
    have hf := fresh_iff l l.length 0 (Nat.zero_add _) (by simp)
    unfold ordB
    rw [decide_eq_true hn, Bool.and_true]
    cases hb : l.all fun x => inO x 1 (l.length : Int) with
    | false =>
      refine evPos rfl (evSome ?_)
      rw [decide_eq_false (fun h => by have := hall.2 (hiff.1 h).1; rw [hb] at this; cases this)]
    | true =>
      refine evNeg (by simp) (evEq (ptGood_l0 l hn.2 l.length 0 (Nat.zero_add _)) ?_)
      cases hfb : freshB l 0 l.length with
      | true => rw [decide_eq_true (hiff.2 ⟨hall.1 hb, hf.1 hfb⟩)]
      | false => rw [decide_eq_false (fun h => by have := hf.2 (hiff.1 h).2; rw [hfb] at this; cases this)]
  · have h1 : inO (l.length : Int) 1 8 = false := by
      unfold inO
      by_cases h1 : 1 ≤ l.length
      · rw [decide_eq_false (show ¬ (l.length : Int) ≤ 8 by omega), Bool.and_false]
      · rw [decide_eq_false (show ¬ (1 : Int) ≤ (l.length : Int) by omega), Bool.false_and]
    rw [h1]
    refine evNeg (by simp) (Ev.step (fun k => by rw [spec_ptGood.j0]) ?_)
    refine evPos rfl (evSome ?_)
    unfold ordB
    rw [decide_eq_false hn, Bool.and_false]
theorem ordB_len (l : List Int) (h : ordB l = true) : 1 ≤ l.length ∧ l.length ≤ 8 := by
  unfold ordB at h
  simp only [Bool.and_eq_true, decide_eq_true_eq] at h
  exact h.2
end Go.Proofs.Ytclmmnphmlmnmaa.X
end
section
/- Orders of n boats: the numbers from 1 to n, each once. -/
--! needs LBase LOrd
namespace Go.Proofs.Ytclmmnphmlmnmaa.X
open Go.Proofs.Ytclmmnphmlmnmaa.Sq Go.RowKit Go.Proofs.YtclmmnphmlmnmaaW.PrintWords Go.Proofs.YtclmmnphmlmnmaaW.PrintLast Go.Proofs.YtclmmnphmlmnmaaW.PrintMore
attribute [local go_sem] max2_int min2_int max_two min_two max_three min_three max_four min_four   -- for this text's walks alone
set_option linter.unusedVariables false
set_option linter.unusedSimpArgs false
structure OrdP (n : Nat) (l : List Int) : Prop where
  len : l.length = n
  nodup : l.Nodup
  range : ∀ x ∈ l, 1 ≤ x ∧ x ≤ (n : Int)
theorem OrdP.of_ordB {l : List Int} (h : ordB l = true) : OrdP l.length l := by
  unfold ordB at h
  simp only [Bool.and_eq_true, decide_eq_true_eq] at h
  obtain ⟨h1, h2⟩ := (iso_iff l).1 h.1
  exact ⟨rfl, h2, h1⟩
theorem OrdP.perm {n : Nat} {l : List Int} (h : OrdP n l) : l.Perm (upL n) :=
  perm_of_len l (upL n) h.nodup (fun x hx => (upL_mem n x).2 (h.range x hx)) (by rw [upL_len, h.len]; exact Nat.le_refl _)
end Go.Proofs.Ytclmmnphmlmnmaa.X
end
section
/- Cycles of an order, as the program finds them. -/
--! needs LBase LOrd impl_cycles
namespace Go.Proofs.Ytclmmnphmlmnmaa.X
open Go.Proofs.Ytclmmnphmlmnmaa.Sq Go.RowKit Go.Proofs.YtclmmnphmlmnmaaW.PrintWords Go.Proofs.YtclmmnphmlmnmaaW.PrintLast Go.Proofs.YtclmmnphmlmnmaaW.PrintMore
attribute [local go_sem] max2_int min2_int max_two min_two max_three min_three max_four min_four   -- for this text's walks alone
set_option linter.unusedVariables false
set_option linter.unusedSimpArgs false
def cyW (o : List Int) : Nat → List Bool → List Int → Nat → List Bool × List Int
 | 0, s, c, _ => (s, c)
 | e + 1, s, c, p => if s.getD p false = true then (s, c) else cyW o e (s.set p true) (c ++ [(p : Int)]) ((o.getD p 0).toNat - 1)
def cyA (o : List Int) (n : Nat) : Nat → Nat → List Bool → List (List Int) → List (List Int)
 | 0, _, _, out => out
 | e + 1, i, s, out => if s.getD i false = true then cyA o n e (i + 1) s out else cyA o n e (i + 1) (cyW o (n + 1) s [] i).1 (out ++ [(cyW o (n + 1) s [] i).2])
theorem cyW_slen (o : List Int) : ∀ (e : Nat) (s : List Bool) (c : List Int) (p : Nat), (cyW o e s c p).1.length = s.length
 | 0, _, _, _ => rfl
 | e + 1, s, c, p => by
  unfold cyW
  split
  · rfl
  · rw [cyW_slen o e, List.length_set]
theorem cyW_ge (o : List Int) : ∀ (e : Nat) (s : List Bool) (c : List Int) (p : Nat), c.length ≤ (cyW o e s c p).2.length
 | 0, _, _, _ => Nat.le_refl _
 | e + 1, s, c, p => by
  unfold cyW
  split
  · exact Nat.le_refl _
  · have := cyW_ge o e (s.set p true) (c ++ [(p : Int)]) ((o.getD p 0).toNat - 1)
    rw [List.length_append] at this
    omega
theorem cnt_set : ∀ (s : List Bool) (p : Nat), p < s.length → ¬ s.getD p false = true → (s.set p true).count false + 1 = s.count false
 | [], p, h, _ => by simp at h
 | b :: s, 0, _, hb => by
  cases b with
  | true => exact absurd rfl hb
  | false => simp
 | b :: s, p + 1, h, hb => by
  have := cnt_set s p (by simpa using h) (by simpa using hb)
  rw [List.set_cons_succ, List.count_cons, List.count_cons]
  omega
theorem rdB (s : List Bool) (p : Nat) : rdOf false s (p : Int) = s.getD p false := by unfold rdOf; rw [Int.toNat_natCast]
theorem rdC (l : List Int) (i : Nat) : rd l (i : Int) = l.getD i 0 := by unfold rd; rw [Int.toNat_natCast]
/-- Every boat's number is a place's. -/
def goodO (o : List Int) : Prop := ∀ p : Nat, p < o.length → 1 ≤ o.getD p 0 ∧ o.getD p 0 ≤ (o.length : Int)
theorem ordB_good (o : List Int) (h : ordB o = true) : goodO o := by
  unfold ordB at h
  simp only [Bool.and_eq_true, decide_eq_true_eq] at h
  intro p hp
  rw [← getElem_getD o p 0 hp]
  exact ((iso_iff o).1 h.1).1 _ (List.getElem_mem _)
theorem nextP (o : List Int) (hg : goodO o) (p : Nat) (hp : p < o.length) (h8 : o.length ≤ 1000) : wrap64 (o.getD p 0 - 1) = (((o.getD p 0).toNat - 1 : Nat) : Int) ∧ (o.getD p 0).toNat - 1 < o.length := by
  obtain ⟨h1, h2⟩ := hg p hp
  generalize o.getD p 0 = z at h1 h2
  exact ⟨(w64 (by omega) (by omega)).trans (by omega), by omega⟩
theorem walk_impl (o : List Int) (hg : goodO o) (h8 : o.length ≤ 8) (out : List (List Int)) (n first : Int) (R : List (List Int)) : ∀ (e : Nat) (s : List Bool) (c : List Int) (p : Nat), s.length = o.length → p < o.length → s.count false < e → c.length + e ≤ 1000 →
    Ev (fun k => if ((cyW o e s c p).2.length : Int) > 0 then (if out.length < 5864062014805 then impl_cycles.l0 k o (out ++ [(cyW o e s c p).2]) (cyW o e s c p).1 n (wrap64 (first + 1)) else none) else impl_cycles.l0 k o out (cyW o e s c p).1 n (wrap64 (first + 1))) R →
    Ev (fun k => impl_cycles.l1 k o out s c (p : Int) n first) R
 | 0, _, _, _, _, _, h, _, _ => absurd h (Nat.not_lt_zero _)
 | e + 1, s, c, p, hs, hp, hc, hb, hK => by
  refine Ev.step (fun k => by rw [impl_cycles.l1]) ?_
  refine evPos (by omega) (evPos (by omega) ?_)
  rw [rdB]
  unfold cyW at hK
  by_cases hz : s.getD p false = true
  · rw [if_pos hz] at hK
    exact evPos hz hK
  · rw [if_neg hz] at hK
    obtain ⟨hw, hlt⟩ := nextP o hg p hp (by omega)
    refine evNeg hz (evPos (by omega) (evPos (by omega) ?_))
    rw [rdC, hw, Int.toNat_natCast]
    have hcs := cnt_set s p (by omega) hz
    exact walk_impl o hg h8 out n first R e (s.set p true) (c ++ [(p : Int)]) _ (by rw [List.length_set]; exact hs) hlt (by omega) (by rw [List.length_append, List.length_singleton]; omega) hK
theorem cyc_impl (o : List Int) (hg : goodO o) (h8 : o.length ≤ 8) : ∀ (e i : Nat) (s : List Bool) (out : List (List Int)), i + e = o.length → s.length = o.length → out.length ≤ i → Ev (fun k => impl_cycles.l0 k o out s (o.length : Int) (i : Int)) (cyA o o.length e i s out)
 | 0, i, s, out, hi, _, _ => by
  refine Ev.step (fun k => by rw [impl_cycles.l0]) ?_
  exact evNeg (by omega) (evSome rfl)
 | e + 1, i, s, out, hi, hs, ho => by
  refine Ev.step (fun k => by rw [impl_cycles.l0]) ?_
  have hcl : s.count false ≤ s.length := List.count_le_length
  refine evPos (by omega) (walk_impl o hg h8 out _ _ _ (o.length + 1) s [] i hs (by omega) (by omega) (by simp; omega) ?_)
  rw [i1o i (by omega)]
  unfold cyA
  by_cases hz : s.getD i false = true
  · rw [if_pos hz]
    have hw : cyW o (o.length + 1) s [] i = (s, []) := by unfold cyW; rw [if_pos hz]
    rw [hw]
    exact evNeg (by simp) (cyc_impl o hg h8 e (i + 1) s out (by omega) hs (by omega))
  · rw [if_neg hz]
    have hge : 1 ≤ (cyW o (o.length + 1) s [] i).2.length := by
      have h := cyW_ge o o.length (s.set i true) ([] ++ [(i : Int)]) ((o.getD i 0).toNat - 1)
      have e1 : cyW o (o.length + 1) s [] i = cyW o o.length (s.set i true) ([] ++ [(i : Int)]) ((o.getD i 0).toNat - 1) := by
        show (if s.getD i false = true then _ else _) = _
        rw [if_neg hz]
      rw [e1]
      exact h
    refine evPos (by omega) (evPos (by omega) ?_)
    exact cyc_impl o hg h8 e (i + 1) _ _ (by omega) (by rw [cyW_slen]; exact hs) (by rw [List.length_append, List.length_singleton]; omega)
/-- All cycles of an order. -/
def cycO (o : List Int) : List (List Int) := cyA o o.length o.length 0 (List.replicate o.length false) []
theorem cycles_impl (o : List Int) (hg : goodO o) (h8 : o.length ≤ 8) : Ev (fun k => impl_cycles.f k o) (cycO o) := by
  unfold impl_cycles.f
  rw [Int.toNat_natCast]
  exact evPos (by omega) (evPos (by omega) (cyc_impl o hg h8 o.length 0 _ [] (Nat.zero_add _) (by simp) (Nat.le_refl _)))
end Go.Proofs.Ytclmmnphmlmnmaa.X
end
section
/- How many cycles there are: a swap makes one more, or one less. -/
--! needs LBase LOrd LCycA impl_cycles
namespace Go.Proofs.Ytclmmnphmlmnmaa.X
open Go.Proofs.Ytclmmnphmlmnmaa.Sq Go.RowKit Go.Proofs.YtclmmnphmlmnmaaW.PrintWords Go.Proofs.YtclmmnphmlmnmaaW.PrintLast Go.Proofs.YtclmmnphmlmnmaaW.PrintMore
attribute [local go_sem] max2_int min2_int max_two min_two max_three min_three max_four min_four   -- for this text's walks alone
set_option linter.unusedVariables false
set_option linter.unusedSimpArgs false
inductive Rel (n : Nat) (f : Nat → Nat) : Nat → Nat → Prop
 | edge (x : Nat) (h : x < n) : Rel n f x (f x)
 | refl (x : Nat) : Rel n f x x
 | symm {x y : Nat} (h : Rel n f x y) : Rel n f y x
 | trans {x y z : Nat} (h : Rel n f x y) (h' : Rel n f y z) : Rel n f x z
structure EqR (R : Nat → Nat → Prop) : Prop where
  refl : ∀ x, R x x
  symm : ∀ {x y}, R x y → R y x
  trans : ∀ {x y z}, R x y → R y z → R x z
def mrg (R : Nat → Nat → Prop) (a b x y : Nat) : Prop := R x y ∨ (R x a ∧ R b y) ∨ (R x b ∧ R a y)
open Classical in
noncomputable def leastB (R : Nat → Nat → Prop) (p : Nat) : Bool := decide (∀ q, q < p → ¬ R q p)
noncomputable def cnt (n : Nat) (R : Nat → Nat → Prop) : Nat := (List.range n).countP (leastB R)
/-! pigeons -/
theorem pig : ∀ (l1 l2 : List Nat), l1.Nodup → (∀ x ∈ l1, x ∈ l2) → l2.length ≤ l1.length → ∀ x ∈ l2, x ∈ l1
 | [], l2, _, _, hl, x, hx => by
  have : l2 = [] := List.eq_nil_of_length_eq_zero (by simpa using hl)
  subst this
  exact hx
 | a :: l1, l2, hn, hs, hl, x, hx => by
  obtain ⟨hn1, hn2⟩ := List.nodup_cons.1 hn
  have ha : a ∈ l2 := hs a (List.mem_cons_self ..)
  have hlen := List.length_erase_of_mem ha
  have h0 : 0 < l2.length := List.length_pos_of_mem ha
  have hi := pig l1 (l2.erase a) hn2 (fun y hy => by
    have hne : y ≠ a := fun e => hn1 (e ▸ hy)
    exact (List.mem_erase_of_ne hne).2 (hs y (List.mem_cons_of_mem _ hy))) (by simp only [List.length_cons] at hl; omega)
  by_cases hxa : x = a
  · subst hxa
    exact List.mem_cons_self ..
  · exact List.mem_cons_of_mem _ (hi x ((List.mem_erase_of_ne hxa).2 hx))
/-! the walk -/
def nxO (o : List Int) (p : Nat) : Nat := (o.getD p 0).toNat - 1
structure PO (o : List Int) : Prop where
  good : goodO o
  inj : ∀ p q, p < o.length → q < o.length → o.getD p 0 = o.getD q 0 → p = q
theorem PO.lt {o : List Int} (h : PO o) (p : Nat) (hp : p < o.length) : nxO o p < o.length := by
  obtain ⟨h1, h2⟩ := h.good p hp
  unfold nxO
  omega
theorem PO.nx_inj {o : List Int} (h : PO o) (p q : Nat) (hp : p < o.length) (hq : q < o.length) (he : nxO o p = nxO o q) : p = q := by
  obtain ⟨h1, h2⟩ := h.good p hp
  obtain ⟨g1, g2⟩ := h.good q hq
  unfold nxO at he
  exact h.inj p q hp hq (by omega)
def EO (o : List Int) : Nat → Nat → Prop := Rel o.length (nxO o)
theorem getD_setT (s : List Bool) (p q : Nat) (hp : p < s.length) : (s.set p true).getD q false = if q = p then true else s.getD q false := by
  rw [List.getD_eq_getElem?_getD, List.getElem?_set]
  by_cases h : p = q
  · subst h
    simp [hp]
  · rw [if_neg h, if_neg (fun e => h e.symm), List.getD_eq_getElem?_getD]
end Go.Proofs.Ytclmmnphmlmnmaa.X
end
section
/- Orders that follow one another, and back orders: as maps of places. -/
--! needs LBase LOrd LPerm LOrdP LInvs
namespace Go.Proofs.Ytclmmnphmlmnmaa.X
open Go.Proofs.Ytclmmnphmlmnmaa.Sq Go.RowKit Go.Proofs.YtclmmnphmlmnmaaW.PrintWords Go.Proofs.YtclmmnphmlmnmaaW.PrintLast Go.Proofs.YtclmmnphmlmnmaaW.PrintMore
attribute [local go_sem] max2_int min2_int max_two min_two max_three min_three max_four min_four   -- for this text's walks alone
set_option linter.unusedVariables false
set_option linter.unusedSimpArgs false
theorem OrdP.po {n : Nat} {o : List Int} (h : OrdP n o) : PO o := by
  have hl := h.len
  refine ⟨fun p hp => ?_, fun p q hp hq he => ?_⟩
  · have := h.range (o.getD p 0) (by rw [← getElem_getD o p 0 hp]; exact List.getElem_mem _)
    rw [hl]
    exact this
  · have hP := List.pairwise_iff_getElem.1 h.nodup
    rw [← getElem_getD o p 0 hp, ← getElem_getD o q 0 hq] at he
    rcases Nat.lt_trichotomy p q with hlt | hlt | hlt
    · exact absurd he (hP p q hp hq hlt)
    · exact hlt
    · exact absurd he.symm (hP q p hq hp hlt)
theorem OrdP.at {n : Nat} {o : List Int} (h : OrdP n o) {p : Nat} (hp : p < n) : o.getD p 0 = ((nxO o p + 1 : Nat) : Int) ∧ nxO o p < n := by
  have h1 := h.po.good p (by rw [h.len]; exact hp)
  have h2 := h.po.lt p (by rw [h.len]; exact hp)
  rw [h.len] at h2 h1
  refine ⟨?_, h2⟩
  unfold nxO
  omega
theorem OrdP.inj {n : Nat} {o : List Int} (h : OrdP n o) {p q : Nat} (hp : p < n) (hq : q < n) (he : nxO o p = nxO o q) : p = q :=
  h.po.nx_inj p q (by rw [h.len]; exact hp) (by rw [h.len]; exact hq) he
theorem OrdP.ext {n : Nat} {a b : List Int} (ha : OrdP n a) (hb : OrdP n b) (h : ∀ p, p < n → nxO a p = nxO b p) : a = b := by
  apply List.ext_getElem
  · rw [ha.len, hb.len]
  · intro i h1 h2
    have hi : i < n := by rw [← ha.len]; exact h1
    rw [getElem_getD a i 0 h1, getElem_getD b i 0 h2, (ha.at hi).1, (hb.at hi).1, h i hi]
theorem pig_n (n : Nat) (f : Nat → Nat) (hf : ∀ p, p < n → f p < n) (hi : ∀ p q, p < n → q < n → f p = f q → p = q) (q : Nat) (hq : q < n) : ∃ p, p < n ∧ f p = q := by
  have h1 := pig ((List.range n).map f) (List.range n) (by
    rw [List.Nodup, List.pairwise_map]
    refine List.pairwise_iff_getElem.2 (fun i j hi' hj' hij he => ?_)
    rw [List.length_range] at hi' hj'
    rw [List.getElem_range, List.getElem_range] at he
    have := hi i j hi' hj' he
    omega) (fun x hx => by
    obtain ⟨p, hp, rfl⟩ := List.mem_map.1 hx
    exact List.mem_range.2 (hf p (List.mem_range.1 hp))) (by simp) q (List.mem_range.2 hq)
  obtain ⟨p, hp, he⟩ := List.mem_map.1 h1
  exact ⟨p, List.mem_range.1 hp, he⟩
theorem OrdP.surj {n : Nat} {o : List Int} (h : OrdP n o) {q : Nat} (hq : q < n) : ∃ p, p < n ∧ nxO o p = q :=
  pig_n n (nxO o) (fun p hp => (h.at hp).2) (fun _ _ hp hq he => h.inj hp hq he) q hq
/-- A list made of a map of places. -/
def ofM (n : Nat) (f : Nat → Nat) : List Int := (List.range n).map fun p => ((f p + 1 : Nat) : Int)
theorem ofM_len (n : Nat) (f : Nat → Nat) : (ofM n f).length = n := by simp [ofM]
theorem ofM_at (n : Nat) (f : Nat → Nat) (p : Nat) (hp : p < n) : (ofM n f).getD p 0 = ((f p + 1 : Nat) : Int) := by
  unfold ofM
  rw [getD_range_map (fun p => ((f p + 1 : Nat) : Int)) n p 0 hp]
theorem nx_ofM (n : Nat) (f : Nat → Nat) (p : Nat) (hp : p < n) : nxO (ofM n f) p = f p := by
  unfold nxO
  rw [ofM_at n f p hp]
  omega
theorem ofM_ord {n : Nat} {f : Nat → Nat} (hf : ∀ p, p < n → f p < n) (hi : ∀ p q, p < n → q < n → f p = f q → p = q) : OrdP n (ofM n f) := by
  refine ⟨ofM_len n f, ?_, fun x hx => ?_⟩
  · unfold ofM
    rw [List.Nodup, List.pairwise_map]
    refine List.pairwise_iff_getElem.2 (fun i j hi' hj' hij he => ?_)
    rw [List.length_range] at hi' hj'
    rw [List.getElem_range, List.getElem_range] at he
    have := hi i j hi' hj' (by omega)
    omega
  · obtain ⟨p, hp, rfl⟩ := List.mem_map.1 hx
    have := hf p (List.mem_range.1 hp)
    omega
/-- b follows a. -/
def folL (a b : List Int) : List Int := a.map fun x => b.getD (x - 1).toNat 0
theorem folL_eq {n : Nat} {a b : List Int} (ha : OrdP n a) (hb : OrdP n b) : folL a b = ofM n (fun p => nxO b (nxO a p)) := by
  apply List.ext_getElem
  · rw [ofM_len]; unfold folL; rw [List.length_map]; exact ha.len
  · intro i h1 h2
    have hi : i < n := by rw [ofM_len] at h2; exact h2
    have h3 : i < a.length := by rw [ha.len]; exact hi
    rw [getElem_getD _ i 0 h2, ofM_at n _ i hi, show (folL a b)[i] = b.getD ((a[i]'h3) - 1).toNat 0 by simp [folL], getElem_getD a i 0 h3, (ha.at hi).1]
    rw [show (((nxO a i + 1 : Nat) : Int) - 1).toNat = nxO a i by omega, (hb.at (ha.at hi).2).1]
theorem folL_ord {n : Nat} {a b : List Int} (ha : OrdP n a) (hb : OrdP n b) : OrdP n (folL a b) := by
  rw [folL_eq ha hb]
  exact ofM_ord (fun p hp => (hb.at (ha.at hp).2).2) (fun p q hp hq he => ha.inj hp hq (hb.inj (ha.at hp).2 (ha.at hq).2 he))
theorem folL_nx {n : Nat} {a b : List Int} (ha : OrdP n a) (hb : OrdP n b) {p : Nat} (hp : p < n) : nxO (folL a b) p = nxO b (nxO a p) := by
  rw [folL_eq ha hb, nx_ofM n _ p hp]
/-- The place of a boat. -/
def inv1 (n : Nat) (f : Nat → Nat) (q : Nat) : Nat := ((List.range n).find? fun p => decide (f p = q)).getD 0
theorem inv1_spec {n : Nat} {o : List Int} (h : OrdP n o) {q : Nat} (hq : q < n) : inv1 n (nxO o) q < n ∧ nxO o (inv1 n (nxO o) q) = q := by
  unfold inv1
  cases hf : (List.range n).find? fun p => decide (nxO o p = q) with
  | none =>
    obtain ⟨p, hp, he⟩ := h.surj hq
    have := List.find?_eq_none.1 hf p (List.mem_range.2 hp)
    exact absurd (decide_eq_true he) this
  | some p =>
    have h1 := List.mem_of_find?_eq_some hf
    have h2 := List.find?_some hf
    exact ⟨List.mem_range.1 h1, of_decide_eq_true h2⟩
def backL (n : Nat) (o : List Int) : List Int := ofM n (inv1 n (nxO o))
theorem backL_ord {n : Nat} {o : List Int} (h : OrdP n o) : OrdP n (backL n o) :=
  ofM_ord (fun p hp => (inv1_spec h hp).1) (fun p q hp hq he => by
    have h1 := (inv1_spec h hp).2
    have h2 := (inv1_spec h hq).2
    rw [he, h2] at h1
    exact h1.symm)
theorem backL_nx {n : Nat} {o : List Int} (h : OrdP n o) {p : Nat} (hp : p < n) : nxO (backL n o) (nxO o p) = p := by
  have h1 := inv1_spec h (h.at hp).2
  unfold backL
  rw [nx_ofM n _ _ (h.at hp).2]
  exact h.inj h1.1 hp h1.2
theorem back_fol {n : Nat} {a b : List Int} (ha : OrdP n a) (hb : OrdP n b) : backL n (folL a b) = folL (backL n b) (backL n a) := by
  have hf := folL_ord ha hb
  refine (backL_ord hf).ext (folL_ord (backL_ord hb) (backL_ord ha)) (fun q hq => ?_)
  obtain ⟨p, hp, rfl⟩ := hf.surj hq
  rw [backL_nx hf hp, folL_nx (backL_ord hb) (backL_ord ha) hq, folL_nx ha hb hp, backL_nx hb (ha.at hp).2, backL_nx ha hp]
theorem upL_ord (n : Nat) : OrdP n (upL n) := ⟨upL_len n, upL_nodup n, fun x hx => (upL_mem n x).1 hx⟩
theorem upL_nx (n p : Nat) (hp : p < n) : nxO (upL n) p = p := by
  unfold nxO upL
  rw [getD_range_map (fun (i : Nat) => (i : Int) + 1) n p 0 hp]
  omega
theorem fol_back {n : Nat} {o : List Int} (h : OrdP n o) : folL o (backL n o) = upL n :=
  (folL_ord h (backL_ord h)).ext (upL_ord n) (fun p hp => by rw [folL_nx h (backL_ord h) hp, backL_nx h hp, upL_nx n p hp])
/-! ### Rounds -/
def itF (f : Nat → Nat) : Nat → Nat → Nat
 | 0, p => p
 | t + 1, p => f (itF f t p)
def powL (o : List Int) : Nat → List Int
 | 0 => o
 | t + 1 => folL (powL o t) o
theorem powL_ord {n : Nat} {o : List Int} (h : OrdP n o) : ∀ t, OrdP n (powL o t)
 | 0 => h
 | t + 1 => folL_ord (powL_ord h t) h
theorem powL_nx {n : Nat} {o : List Int} (h : OrdP n o) : ∀ t p, p < n → nxO (powL o t) p = itF (nxO o) (t + 1) p
 | 0, _, _ => rfl
 | t + 1, p, hp => by
  show nxO (folL (powL o t) o) p = _
  rw [folL_nx (powL_ord h t) h hp, powL_nx h t p hp]
  rfl
theorem powL_home {n : Nat} {o : List Int} (h : OrdP n o) (t : Nat) : powL o t = upL n ↔ ∀ p, p < n → itF (nxO o) (t + 1) p = p := by
  constructor
  · intro he p hp
    rw [← powL_nx h t p hp, he, upL_nx n p hp]
  · intro he
    exact (powL_ord h t).ext (upL_ord n) (fun p hp => by rw [powL_nx h t p hp, he p hp, upL_nx n p hp])
theorem itF_add (f : Nat → Nat) (p : Nat) : ∀ s t, itF f (s + t) p = itF f s (itF f t p)
 | 0, t => by rw [Nat.zero_add]; rfl
 | s + 1, t => by
  rw [show s + 1 + t = (s + t) + 1 by omega]
  show f (itF f (s + t) p) = f (itF f s (itF f t p))
  rw [itF_add f p s t]
theorem itF_lt {n : Nat} {o : List Int} (h : OrdP n o) {p : Nat} (hp : p < n) : ∀ t, itF (nxO o) t p < n
 | 0 => hp
 | t + 1 => (h.at (itF_lt h hp t)).2
theorem itF_inj {n : Nat} {o : List Int} (h : OrdP n o) : ∀ t p q, p < n → q < n → itF (nxO o) t p = itF (nxO o) t q → p = q
 | 0, _, _, _, _, he => he
 | t + 1, p, q, hp, hq, he => itF_inj h t p q hp hq (h.inj (itF_lt h hp t) (itF_lt h hq t) he)
/-- Of period m: m rounds come home from p, none before does. -/
def perP (f : Nat → Nat) (p m : Nat) : Prop := 0 < m ∧ itF f m p = p ∧ ∀ i, 0 < i → i < m → itF f i p ≠ p
theorem per_mul {f : Nat → Nat} {p m : Nat} (h : itF f m p = p) : ∀ k, itF f (k * m) p = p
 | 0 => by rw [Nat.zero_mul]; rfl
 | k + 1 => by rw [Nat.add_mul, Nat.one_mul, itF_add, h, per_mul h k]
theorem per_iff {f : Nat → Nat} {p m : Nat} (h : perP f p m) (t : Nat) : itF f t p = p ↔ m ∣ t := by
  obtain ⟨h1, h2, h3⟩ := h
  constructor
  · intro ht
    have e : t = t % m + (t / m) * m := by have := Nat.mod_add_div t m; rw [Nat.mul_comm]; omega
    rw [e, itF_add, per_mul h2] at ht
    rcases Nat.eq_zero_or_pos (t % m) with hz | hz
    · exact Nat.dvd_of_mod_eq_zero hz
    · exact absurd ht (h3 _ hz (Nat.mod_lt _ h1))
  · rintro ⟨k, rfl⟩
    rw [Nat.mul_comm, per_mul h2]
/-- The points of one orbit come home together. -/
theorem per_orbit {n : Nat} {o : List Int} (h : OrdP n o) {p : Nat} (hp : p < n) (j t : Nat) : itF (nxO o) t (itF (nxO o) j p) = itF (nxO o) j p ↔ itF (nxO o) t p = p := by
  rw [← itF_add, Nat.add_comm t j, itF_add]
  constructor
  · intro he
    exact itF_inj h j _ _ (itF_lt h hp t) hp he
  · intro he
    rw [he]
end Go.Proofs.Ytclmmnphmlmnmaa.X
end
section
/- Orders that follow one another, and back orders: as the program and the reference tell them. -/
--! needs LBase LOrd LOrdP LPerm LFol impl_FollowOrder spec_FollowOrder spec_ptFollow impl_BackOrder spec_BackOrder
namespace Go.Proofs.Ytclmmnphmlmnmaa.X
open Go.Proofs.Ytclmmnphmlmnmaa.Sq Go.RowKit Go.Proofs.YtclmmnphmlmnmaaW.PrintWords Go.Proofs.YtclmmnphmlmnmaaW.PrintLast Go.Proofs.YtclmmnphmlmnmaaW.PrintMore
attribute [local go_sem] max2_int min2_int max_two min_two max_three min_three max_four min_four   -- for this text's walks alone
set_option linter.unusedVariables false
set_option linter.unusedSimpArgs false
theorem rdB_ (l : List Int) (i : Nat) : rd l (i : Int) = l.getD i 0 := by unfold rd; rw [Int.toNat_natCast]
theorem i1b (x : Nat) (h : x ≤ 100000) : wrap64 ((x : Int) + 1) = ((x + 1 : Nat) : Int) := (w64 (by omega) (by omega)).trans (by omega)
theorem fol_impl_l0 (a b : List Int) (h : ∀ x ∈ a, 1 ≤ x ∧ x ≤ (b.length : Int)) (ha : a.length ≤ 100) (hb : b.length ≤ 100) : ∀ (e i : Nat) (acc : List Int), i + e = a.length → acc.length + e ≤ 1000 → Ev (fun k => impl_FollowOrder.l0 k b acc a (a.length : Int) (i : Int)) (acc ++ folL (a.drop i) b, true) := by
  intro e
  induction e with
  | zero =>
    intro i acc hi hc
    refine Ev.step (fun k => by rw [impl_FollowOrder.l0]) ?_
    refine evNeg (by omega) (evSome ?_)
    rw [List.drop_of_length_le (by omega)]
    simp [folL]
  | succ e ih =>
    intro i acc hi hc
    refine Ev.step (fun k => by rw [impl_FollowOrder.l0]) ?_
    have hx := h (a.getD i 0) (by rw [← getElem_getD a i 0 (by omega)]; exact List.getElem_mem _)
    rw [rdB_, i1b i (by omega), w64 (x := a.getD i 0 - 1) (by omega) (by omega)]
    refine evPos (by omega) (evPos (by omega) (evPos (by omega) (evPos (by omega) (evPos (by omega) (evPos (by omega) ?_)))))
    refine evEq (ih (i + 1) _ (by omega) (by rw [List.length_append, List.length_singleton]; omega)) ?_
    rw [getD_drop_cons a i 0 (by omega)]
    simp only [folL, List.map_cons, List.append_assoc, List.singleton_append]
    rfl
theorem fol_spec_l0 (a b : List Int) (h : ∀ x ∈ a, 1 ≤ x ∧ x ≤ (b.length : Int)) (ha : a.length ≤ 100) (hb : b.length ≤ 100) : ∀ (e i : Nat) (acc : List Int), i + e = a.length → acc.length + e ≤ 1000 → Ev (fun k => spec_ptFollow.l0 k b acc a (a.length : Int) (i : Int)) (acc ++ folL (a.drop i) b) := by
  intro e
  induction e with
  | zero =>
    intro i acc hi hc
    refine Ev.step (fun k => by rw [spec_ptFollow.l0]) ?_
    refine evNeg (by omega) (evSome ?_)
    rw [List.drop_of_length_le (by omega)]
    simp [folL]
  | succ e ih =>
    intro i acc hi hc
    refine Ev.step (fun k => by rw [spec_ptFollow.l0]) ?_
    have hx := h (a.getD i 0) (by rw [← getElem_getD a i 0 (by omega)]; exact List.getElem_mem _)
    rw [rdB_, i1b i (by omega), w64 (x := a.getD i 0 - 1) (by omega) (by omega)]
    refine evPos (by omega) (evPos (by omega) (evPos (by omega) (evPos (by omega) (evPos (by omega) (evPos (by omega) ?_)))))
    refine evEq (ih (i + 1) _ (by omega) (by rw [List.length_append, List.length_singleton]; omega)) ?_
    rw [getD_drop_cons a i 0 (by omega)]
    simp only [folL, List.map_cons, List.append_assoc, List.singleton_append]
    rfl
theorem fol_range {a b : List Int} (h1 : ordB a = true) (h3 : a.length = b.length) : ∀ x ∈ a, 1 ≤ x ∧ x ≤ (b.length : Int) := fun x hx => by
  have := (OrdP.of_ordB h1).range x hx
  omega
theorem ptFollow_ev {a b : List Int} (h : ∀ x ∈ a, 1 ≤ x ∧ x ≤ (b.length : Int)) (ha : a.length ≤ 100) (hb : b.length ≤ 100) : Ev (fun k => spec_ptFollow.f k a b) (folL a b) := by
  unfold spec_ptFollow.f
  have := fol_spec_l0 a b h ha hb a.length 0 [] (Nat.zero_add _) (by simp; omega)
  simpa using this
def folF (a b : List Int) : List Int × Bool := if ordB a = true ∧ ordB b = true ∧ a.length = b.length then (folL a b, true) else ([], false)
theorem Follow_impl (a b : List Int) (ha : a.length ≤ 100000) (hb : b.length ≤ 100000) : Ev (fun k => impl_FollowOrder.f k a b) (folF a b) := by
  have no : Ev (fun k => impl_FollowOrder.j0 k a b true) ([], false) := Ev.step (fun k => by rw [impl_FollowOrder.j0]) (evPos rfl (evSome rfl))
  unfold impl_FollowOrder.f folF
  refine evBind0 (IsOrder_eq a (by omega)) ?_
  cases h1 : ordB a with
  | false => rw [if_neg (by simp)]; exact evNeg (by simp) no
  | true =>
    refine evPos rfl (evBind0 (IsOrder_eq b (by omega)) ?_)
    cases h2 : ordB b with
    | false => rw [if_neg (by simp)]; exact evNeg (by simp) no
    | true =>
      refine evPos rfl ?_
      have hl := ordB_len a h1
      by_cases h3 : a.length = b.length
      · rw [if_pos ⟨rfl, rfl, h3⟩]
        have e : ((a.length : Int) != (b.length : Int)) = false := by rw [h3]; simp
        rw [e]
        refine Ev.step (fun k => by rw [impl_FollowOrder.j0]) (evNeg (by simp) ?_)
        have := fol_impl_l0 a b (fol_range h1 h3) (by omega) (by omega) a.length 0 [] (Nat.zero_add _) (by simp; omega)
        simpa using this
      · rw [if_neg (fun h => h3 h.2.2)]
        have e : ((a.length : Int) != (b.length : Int)) = true := by
          rw [bne_iff_ne]
          omega
        rw [e]
        exact no
theorem Follow_spec (a b : List Int) : Ev (fun k => spec_FollowOrder.f k a b) (folF a b) := by
  unfold spec_FollowOrder.f folF
  refine Ev.bind (ptGood_ev a) ?_
  cases h1 : ordB a with
  | false => rw [if_neg (by simp)]; exact evNeg (by simp) (evSome rfl)
  | true =>
    refine evPos rfl (Ev.bind (ptGood_ev b) ?_)
    cases h2 : ordB b with
    | false => rw [if_neg (by simp)]; exact evNeg (by simp) (evSome rfl)
    | true =>
      refine evPos rfl ?_
      have hl := ordB_len a h1
      by_cases h3 : a.length = b.length
      · rw [if_pos ⟨rfl, rfl, h3⟩]
        exact evPos (by omega) (Ev.bind (ptFollow_ev (fol_range h1 h3) (by omega) (by omega)) (evSome rfl))
      · rw [if_neg (fun h => h3 h.2.2)]
        exact evNeg (by omega) (evSome rfl)
/-! ### Back orders -/
theorem back_end {n : Nat} {o out : List Int} (h : OrdP n o) (hl : out.length = n) (hp : ∀ p, p < n → out.getD (nxO o p) 0 = ((p + 1 : Nat) : Int)) : out = backL n o := by
  apply List.ext_getElem
  · rw [hl, (backL_ord h).len]
  · intro q h1 h2
    have hq : q < n := by omega
    obtain ⟨i1, i2⟩ := inv1_spec h hq
    rw [getElem_getD out q 0 h1, getElem_getD (backL n o) q 0 h2]
    have := hp _ i1
    rw [i2] at this
    rw [this]
    exact (ofM_at n _ q hq).symm
theorem back_at {n : Nat} {o : List Int} (h : OrdP n o) (hn : n ≤ 8) {i : Nat} (hi : i < n) : wrap64 (o.getD i 0 - 1) = ((nxO o i : Nat) : Int) ∧ nxO o i < n := by
  obtain ⟨h1, h2⟩ := h.at hi
  rw [h1]
  exact ⟨(w64 (by omega) (by omega)).trans (by omega), h2⟩
theorem back_next {n : Nat} {o out : List Int} (h : OrdP n o) (hl : out.length = n) {i : Nat} (hi : i < n) (hp : ∀ p, p < i → out.getD (nxO o p) 0 = ((p + 1 : Nat) : Int)) : ∀ p, p < i + 1 → (out.set (nxO o i) ((i + 1 : Nat) : Int)).getD (nxO o p) 0 = ((p + 1 : Nat) : Int) := by
  intro p hp'
  have h2 := (h.at hi).2
  by_cases he : p = i
  · subst he
    exact getD_set_same _ _ _ _ (by omega)
  · have hne : nxO o i ≠ nxO o p := fun e => he (h.inj (by omega) hi e.symm)
    rw [List.getD_eq_getElem?_getD, List.getElem?_set_ne hne, ← List.getD_eq_getElem?_getD]
    exact hp p (by omega)
theorem back_impl_l0 {n : Nat} {o : List Int} (h : OrdP n o) (hn : n ≤ 8) : ∀ (e i : Nat) (out : List Int), i + e = n → out.length = n → (∀ p, p < i → out.getD (nxO o p) 0 = ((p + 1 : Nat) : Int)) → Ev (fun k => impl_BackOrder.l0 k out o (n : Int) (i : Int)) (backL n o, true) := by
  intro e
  induction e with
  | zero =>
    intro i out hi hl hp
    refine Ev.step (fun k => by rw [impl_BackOrder.l0]) ?_
    refine evNeg (by omega) (evSome ?_)
    rw [back_end h hl (fun p hp' => hp p (by omega))]
  | succ e ih =>
    intro i out hi hl hp
    refine Ev.step (fun k => by rw [impl_BackOrder.l0]) ?_
    have hol := h.len
    obtain ⟨h1, h2⟩ := back_at h hn (i := i) (by omega)
    rw [rdB_, i1b i (by omega), h1, Int.toNat_natCast]
    refine evPos (by omega) (evPos (by omega) (evPos (by omega) (evPos (by omega) (evPos (by omega) ?_))))
    exact ih (i + 1) _ (by omega) (by rw [List.length_set]; exact hl) (back_next h hl (by omega) hp)
theorem back_spec_l0 {n : Nat} {o : List Int} (h : OrdP n o) (hn : n ≤ 8) : ∀ (e i : Nat) (out : List Int), i + e = n → out.length = n → (∀ p, p < i → out.getD (nxO o p) 0 = ((p + 1 : Nat) : Int)) → Ev (fun k => spec_BackOrder.l0 k out o (n : Int) (i : Int)) (backL n o, true) := by
  intro e
  induction e with
  | zero =>
    intro i out hi hl hp
    refine Ev.step (fun k => by rw [spec_BackOrder.l0]) ?_
    refine evNeg (by omega) (evSome ?_)
    rw [back_end h hl (fun p hp' => hp p (by omega))]
  | succ e ih =>
    intro i out hi hl hp
    refine Ev.step (fun k => by rw [spec_BackOrder.l0]) ?_
    have hol := h.len
    obtain ⟨h1, h2⟩ := back_at h hn (i := i) (by omega)
    rw [rdB_, i1b i (by omega), h1, Int.toNat_natCast]
    refine evPos (by omega) (evPos (by omega) (evPos (by omega) (evPos (by omega) (evPos (by omega) ?_))))
    exact ih (i + 1) _ (by omega) (by rw [List.length_set]; exact hl) (back_next h hl (by omega) hp)
def backF (l : List Int) : List Int × Bool := if ordB l = true then (backL l.length l, true) else ([], false)
theorem Back_impl (l : List Int) (hl : l.length ≤ 100000) : Ev (fun k => impl_BackOrder.f k l) (backF l) := by
  unfold impl_BackOrder.f backF
  refine evBind0 (IsOrder_eq l (by omega)) ?_
  cases h1 : ordB l with
  | false => rw [if_neg (by simp)]; exact evNeg (by simp) (evSome rfl)
  | true =>
    rw [if_pos rfl, Int.toNat_natCast]
    have h8 := ordB_len l h1
    exact evPos rfl (evPos (by omega) (evPos (by omega) (back_impl_l0 (OrdP.of_ordB h1) h8.2 l.length 0 _ (Nat.zero_add _) (by simp) (fun p hp => absurd hp (by omega)))))
theorem Back_spec (l : List Int) : Ev (fun k => spec_BackOrder.f k l) (backF l) := by
  unfold spec_BackOrder.f backF
  refine Ev.bind (ptGood_ev l) ?_
  cases h1 : ordB l with
  | false => rw [if_neg (by simp)]; exact evNeg (by simp) (evSome rfl)
  | true =>
    rw [if_pos rfl, Int.toNat_natCast]
    have h8 := ordB_len l h1
    exact evPos rfl (evPos (by omega) (evPos (by omega) (back_spec_l0 (OrdP.of_ordB h1) h8.2 l.length 0 _ (Nat.zero_add _) (by simp) (fun p hp => absurd hp (by omega)))))
end Go.Proofs.Ytclmmnphmlmnmaa.X
end
section
/- Draws: the cursor over the bytes goes on; a pick is below its number. -/
--! needs LBase spec_l1Cur_next spec_l1Cur_pick
namespace Go.Proofs.Ytclmmnphmlmnmaa.X
open Go.Proofs.Ytclmmnphmlmnmaa.Sq Go.RowKit Go.Proofs.YtclmmnphmlmnmaaW.PrintWords Go.Proofs.YtclmmnphmlmnmaaW.PrintLast Go.Proofs.YtclmmnphmlmnmaaW.PrintMore
attribute [local go_sem] max2_int min2_int max_two min_two max_three min_three max_four min_four   -- for this text's walks alone
set_option linter.unusedVariables false
set_option linter.unusedSimpArgs false
def bytesOk (c : List Int) : Prop := (∀ x ∈ c, 0 ≤ x ∧ x ≤ 255) ∧ c.length ≤ 1048576
theorem bytesOk_of {c : List Int} (h : ∀ x ∈ c, (Lit.int .u8 x).wf = true) (hl : c.length ≤ 1048576) : bytesOk c := ⟨fun x hx => by
  have h1 := h x hx
  simp only [Lit.wf, Bool.and_eq_true, decide_eq_true_eq] at h1
  exact h1, hl⟩
theorem wraps_u64_63 (n : Int) (h₀ : 0 ≤ n) (h₁ : n < 2 ^ 63) : IntKind.u64.wrap n = n := by rw [IntKind.wrap_u64]; omega
theorem mask8 (n : Int) : ∃ b, wrap64 (Go.bits .and .u64 (IntKind.u64.wrap n / 1099511627776) 255) = b ∧ 0 ≤ b ∧ b ≤ 255 := by
  have e : ((2 : Int) ^ 8 - 1) = 255 := by decide
  have e2 : ((2 : Int) ^ 8) = 256 := by decide
  have h := bits_mask .u64 63 (by decide) wraps_u64_63 8 (by decide) (IntKind.u64.wrap n / 1099511627776) (by rw [IntKind.wrap_u64]; omega) (by rw [IntKind.wrap_u64]; omega)
  rw [e, e2] at h
  refine ⟨_, rfl, ?_, ?_⟩
  · rw [h, w64 (by omega) (by omega)]; omega
  · rw [h, w64 (by omega) (by omega)]; omega
theorem rd_byte {c : List Int} (hc : bytesOk c) (i : Int) (h0 : 0 ≤ i) (h1 : i < (c.length : Int)) : 0 ≤ rd c i ∧ rd c i ≤ 255 := by
  refine hc.1 _ ?_
  unfold rd
  rw [List.getD_eq_getElem?_getD, List.getElem?_eq_getElem (by omega)]
  exact List.getElem_mem _
theorem emod_le' {a b : Int} (h0 : 0 ≤ a) (h1 : 0 < b) : a % b ≤ a := by
  rcases Int.lt_or_le a b with h | h
  · rw [Int.emod_eq_of_lt h0 h]; exact Int.le_refl _
  · exact Int.le_trans (Int.le_of_lt (Int.emod_lt_of_pos a h1)) h
theorem next_ok {c : List Int} (hc : bytesOk c) (i s : Int) (h0 : 0 ≤ i) (hB : i ≤ 1000000000000000) : ∃ b s', spec_l1Cur_next.f c i s = some (b, i + 1, s') ∧ 0 ≤ b ∧ b ≤ 255 := by
  have e1 : wrap64 (i + 1) = i + 1 := w64 (by omega) (by omega)
  have hl := hc.2
  unfold spec_l1Cur_next.f
  rw [e1]
  by_cases c1 : i < (c.length : Int)
  · obtain ⟨b0, b1⟩ := rd_byte hc i h0 c1
    rw [if_pos c1, if_pos h0, if_pos (by omega), w64 (x := rd c i) (by omega) (by omega)]
    exact ⟨_, _, rfl, b0, b1⟩
  · rw [if_neg c1]
    by_cases c2 : i + 1 ≤ (c.length : Int)
    · exact absurd c2 (by omega)
    · rw [if_neg c2]
      obtain ⟨b, e, b0, b1⟩ := mask8 ((IntKind.u64.wrap ((IntKind.u64.wrap (s * 6364136223846793005)))) + 1442695040888963407)
      rw [e]
      exact ⟨_, _, rfl, b0, b1⟩
/-- A pick: a number from 0 to below n; the cursor goes on by two at most. -/
theorem pick_ok {c : List Int} (hc : bytesOk c) (i s n : Int) (h0 : 0 ≤ i) (hB : i ≤ 1000000000) (hn : n ≤ 1000000000) : ∃ v i' s', spec_l1Cur_pick.f c i s n = some (v, i', s') ∧ 0 ≤ v ∧ (1 ≤ n → v < n) ∧ v ≤ 65535 ∧ i ≤ i' ∧ i' ≤ i + 2 := by
  unfold spec_l1Cur_pick.f
  by_cases c1 : n ≤ 1
  · rw [if_pos c1]
    exact ⟨_, _, _, rfl, by omega, by omega, by omega, by omega, by omega⟩
  · rw [if_neg c1]
    obtain ⟨b, s1, e1, b0, b1⟩ := next_ok hc i s h0 (by omega)
    rw [e1]
    simp only [Option.bind_some]
    by_cases c2 : n > 200
    · rw [if_pos c2]
      obtain ⟨d, s2, e2, d0, d1⟩ := next_ok hc (i + 1) s1 (by omega) (by omega)
      rw [e2]
      simp only [Option.bind_some]
      rw [if_neg (by omega), w64 (x := b * 256) (by omega) (by omega), w64 (x := b * 256 + d) (by omega) (by omega), Int.tmod_eq_emod_of_nonneg (by omega)]
      have m1 := Int.emod_nonneg (b * 256 + d) (b := n) (by omega)
      have m2 := Int.emod_lt_of_pos (b * 256 + d) (b := n) (by omega)
      have m3 : (b * 256 + d) % n ≤ b * 256 + d := emod_le' (by omega) (by omega)
      exact ⟨_, _, _, rfl, m1, fun _ => m2, by omega, by omega, by omega⟩
    · rw [if_neg c2, if_neg (by omega), Int.tmod_eq_emod_of_nonneg b0]
      have m1 := Int.emod_nonneg b (b := n) (by omega)
      have m2 := Int.emod_lt_of_pos b (b := n) (by omega)
      have m3 : b % n ≤ b := emod_le' (by omega) (by omega)
      exact ⟨_, _, _, rfl, m1, fun _ => m2, by omega, by omega, by omega⟩
end Go.Proofs.Ytclmmnphmlmnmaa.X
end
section
/- How many two are inverted. -/
--! needs LBase LOrd spec_ptInverted
namespace Go.Proofs.Ytclmmnphmlmnmaa.X
open Go.Proofs.Ytclmmnphmlmnmaa.Sq Go.RowKit Go.Proofs.YtclmmnphmlmnmaaW.PrintWords Go.Proofs.YtclmmnphmlmnmaaW.PrintLast Go.Proofs.YtclmmnphmlmnmaaW.PrintMore
attribute [local go_sem] max2_int min2_int max_two min_two max_three min_three max_four min_four   -- for this text's walks alone
set_option linter.unusedVariables false
set_option linter.unusedSimpArgs false
def invs : List Int → Nat
 | [] => 0
 | a :: l => l.countP (fun b => decide (b < a)) + invs l
theorem rdN (l : List Int) (i : Nat) : rd l (i : Int) = l.getD i 0 := by unfold rd; rw [Int.toNat_natCast]
theorem inv_l1 (l : List Int) (i : Int) (a : Int) (m : List Int) (hm : m.length ≤ 100) (r : Int) (e : Nat) : ∀ (j acc : Nat), j + e = m.length → acc + e ≤ 100000 →
    Ev (fun k => spec_ptInverted.l0 k l ((acc + (m.drop j).countP (fun b => decide (b < a)) : Nat) : Int) l (l.length : Int) (wrap64 (i + 1))) r →
    Ev (fun k => spec_ptInverted.l1 k l (acc : Int) a l (l.length : Int) i m (m.length : Int) (j : Int)) r := by
  induction e with
  | zero =>
    intro j acc hj ha h
    refine Ev.step (fun k => by rw [spec_ptInverted.l1]) ?_
    refine evNeg (by omega) ?_
    rw [List.drop_of_length_le (by omega)] at h
    simpa using h
  | succ e ih =>
    intro j acc hj ha h
    refine Ev.step (fun k => by rw [spec_ptInverted.l1]) ?_
    rw [getD_drop_cons m j 0 (by omega), List.countP_cons] at h
    rw [i1o j (by omega), rdN]
    refine evPos (by omega) (evPos (by omega) (evPos (by omega) (evSplit (fun c => ?_) (fun c => ?_))))
    · rw [if_pos (by simpa using c)] at h
      rw [show wrap64 ((acc : Int) + 1) = ((acc + 1 : Nat) : Int) from (w64 (by omega) (by omega)).trans (by omega)]
      refine ih (j + 1) (acc + 1) (by omega) (by omega) ?_
      rw [show acc + 1 + List.countP (fun b => decide (b < a)) (List.drop (j + 1) m) = acc + (List.countP (fun b => decide (b < a)) (List.drop (j + 1) m) + 1) by omega]
      exact h
    · rw [if_neg (by simpa using c)] at h
      exact ih (j + 1) acc (by omega) (by omega) h
theorem inv_l0 (l : List Int) (hl : l.length ≤ 100) (e : Nat) : ∀ (i acc : Nat), i + e = l.length → acc + e * 100 ≤ 20000 →
    Ev (fun k => spec_ptInverted.l0 k l (acc : Int) l (l.length : Int) (i : Int)) ((acc + invs (l.drop i) : Nat) : Int) := by
  induction e with
  | zero =>
    intro i acc hi ha
    refine Ev.step (fun k => by rw [spec_ptInverted.l0]) ?_
    refine evNeg (by omega) (evSome ?_)
    rw [List.drop_of_length_le (by omega)]
    simp [invs]
  | succ e ih =>
    intro i acc hi ha
    refine Ev.step (fun k => by rw [spec_ptInverted.l0]) ?_
    rw [i1o i (by omega), rdN, Int.toNat_natCast]
    refine evPos (by omega) (evPos (by omega) (evPos (by omega) (evPos (by omega) (evPos (by omega) ?_))))
    refine inv_l1 l (i : Int) (l.getD i 0) (l.drop (i + 1)) (by rw [List.length_drop]; omega) _ (l.drop (i + 1)).length 0 acc (by omega) (by rw [List.length_drop]; omega) ?_
    rw [i1o i (by omega), List.drop_zero]
    have hc : (l.drop (i + 1)).countP (fun b => decide (b < l.getD i 0)) ≤ (l.drop (i + 1)).length := List.countP_le_length
    rw [List.length_drop] at hc
    refine evEq (ih (i + 1) _ (by omega) (by omega)) ?_
    rw [getD_drop_cons l i 0 (by omega)]
    simp only [invs]
    omega
theorem ptInverted_ev (l : List Int) (hl : l.length ≤ 100) : Ev (fun k => spec_ptInverted.f k l) ((invs l : Nat) : Int) := by
  unfold spec_ptInverted.f
  have h := inv_l0 l hl l.length 0 0 (Nat.zero_add _) (by omega)
  simpa using h
end Go.Proofs.Ytclmmnphmlmnmaa.X
end
section
/- The rank of an order: one-to-one. -/
--! needs LBase LOrd LInvs LOrdP spec_ptRank
namespace Go.Proofs.Ytclmmnphmlmnmaa.X
open Go.Proofs.Ytclmmnphmlmnmaa.Sq Go.RowKit Go.Proofs.YtclmmnphmlmnmaaW.PrintWords Go.Proofs.YtclmmnphmlmnmaaW.PrintLast Go.Proofs.YtclmmnphmlmnmaaW.PrintMore
attribute [local go_sem] max2_int min2_int max_two min_two max_three min_three max_four min_four   -- for this text's walks alone
set_option linter.unusedVariables false
set_option linter.unusedSimpArgs false
def fct : Nat → Nat
 | 0 => 1
 | n + 1 => (n + 1) * fct n
theorem fct_pos : ∀ n, 0 < fct n
 | 0 => by decide
 | n + 1 => by rw [fct]; exact Nat.mul_pos (by omega) (fct_pos n)
def cntL (a : Int) (t : List Int) : Nat := t.countP (fun b => decide (b < a))
def code : List Int → Nat
 | [] => 0
 | a :: t => cntL a t * fct t.length + code t
def rkA (acc : Nat) : List Int → Nat
 | [] => acc
 | a :: t => rkA (acc * (t.length + 1) + cntL a t) t
theorem rkA_eq : ∀ (l : List Int) (acc : Nat), rkA acc l = acc * fct l.length + code l
 | [], acc => by simp [rkA, code, fct]
 | a :: t, acc => by
  rw [rkA, rkA_eq t, code, List.length_cons, fct, Nat.add_mul, Nat.mul_assoc, Nat.add_assoc]
theorem cntL_le (a : Int) (t : List Int) : cntL a t ≤ t.length := List.countP_le_length
theorem code_lt : ∀ l : List Int, code l < fct l.length
 | [] => by decide
 | a :: t => by
  have h1 := code_lt t
  have h2 : (cntL a t + 1) * fct t.length ≤ (t.length + 1) * fct t.length := Nat.mul_le_mul_right _ (Nat.add_le_add_right (cntL_le a t) 1)
  rw [Nat.add_mul, Nat.one_mul] at h2
  rw [code, List.length_cons, fct]
  omega
theorem cntL_mono {a b : Int} (hab : a ≤ b) : ∀ L : List Int, cntL a L ≤ cntL b L
 | [] => Nat.le_refl _
 | c :: L => by
  have ih := cntL_mono hab L
  unfold cntL at *
  rw [List.countP_cons, List.countP_cons]
  by_cases h : c < a
  · rw [if_pos (by simpa using h), if_pos (by simp; omega)]
    omega
  · rw [if_neg (by simpa using h)]
    omega
theorem cntL_lt {a b : Int} (hab : a < b) : ∀ L : List Int, a ∈ L → cntL a L < cntL b L
 | [], h => by cases h
 | c :: L, h => by
  by_cases hc : c = a
  · subst hc
    have ih := cntL_mono (Int.le_of_lt hab) L
    unfold cntL at *
    rw [List.countP_cons, List.countP_cons, if_neg (by simp), if_pos (by simpa using hab)]
    omega
  · have ih := cntL_lt hab L (by rcases List.mem_cons.1 h with h | h; exact absurd h.symm hc; exact h)
    unfold cntL at *
    rw [List.countP_cons, List.countP_cons]
    by_cases h : c < a
    · rw [if_pos (by simpa using h), if_pos (by simp; omega)]
      omega
    · rw [if_neg (by simpa using h)]
      omega
theorem cntL_self (a : Int) (t : List Int) : cntL a (a :: t) = cntL a t := by
  unfold cntL
  rw [List.countP_cons, if_neg (by simp)]
  rfl
theorem code_inj : ∀ (l l' : List Int), l.Perm l' → code l = code l' → l = l'
 | [], l', h, _ => h.nil_eq
 | a :: t, [], h, _ => by have := h.length_eq; simp at this
 | a :: t, b :: u, h, hc => by
  have hl : t.length = u.length := by have := h.length_eq; simpa using this
  have h1 := code_lt t
  have h2 := code_lt u
  rw [code, code, ← hl] at hc
  rw [← hl] at h2
  have hF := fct_pos t.length
  have hd : ∀ c x, x < fct t.length → (c * fct t.length + x) / fct t.length = c := fun c x hx => by
    rw [Nat.add_comm, Nat.add_mul_div_right _ _ hF, Nat.div_eq_of_lt hx, Nat.zero_add]
  have hcc : cntL a t = cntL b u := by
    have h3 := congrArg (fun z => z / fct t.length) hc
    rwa [hd _ _ h1, hd _ _ h2] at h3
  have hco : code t = code u := by rw [hcc] at hc; omega
  have hp : cntL a (b :: u) = cntL b (b :: u) := by
    have e : cntL a (a :: t) = cntL a (b :: u) := h.countP_eq _
    rw [← e, cntL_self, cntL_self, hcc]
  have hab : a = b := by
    rcases Int.lt_trichotomy a b with h3 | h3 | h3
    · have := cntL_lt h3 (b :: u) ((h.mem_iff).1 (List.mem_cons_self ..))
      omega
    · exact h3
    · have := cntL_lt h3 (b :: u) (List.mem_cons_self ..)
      omega
  subst hab
  rw [code_inj t u ((List.perm_cons a).1 h) hco]
theorem code_zero : ∀ l : List Int, invs l = 0 → code l = 0
 | [], _ => rfl
 | a :: t, h => by
  rw [invs] at h
  have h1 : cntL a t = 0 := by unfold cntL; omega
  rw [code, h1, Nat.zero_mul, code_zero t (by omega)]
theorem invs_up : ∀ l : List Int, l.Pairwise (· < ·) → invs l = 0
 | [], _ => rfl
 | a :: t, h => by
  rw [List.pairwise_cons] at h
  rw [invs, invs_up t h.2, Nat.add_zero, List.countP_eq_zero]
  intro x hx
  have := h.1 x hx
  simp
  omega
theorem invs_home {n : Nat} {x : List Int} (h : OrdP n x) : invs x = 0 ↔ x = upL n := by
  constructor
  · intro h0
    exact code_inj x (upL n) h.perm ((code_zero x h0).trans (code_zero _ (invs_up _ (upL_lt n))).symm)
  · rintro rfl
    exact invs_up _ (upL_lt n)
theorem rank_l1 (l : List Int) (A B : Int) (i : Int) (a : Int) (m : List Int) (hm : m.length ≤ 100) (r : Int) (e : Nat) : ∀ (j c : Nat), j + e = m.length → c + e ≤ 100000 →
    Ev (fun k => spec_ptRank.l0 k l (wrap64 ((wrap64 (A * (wrap64 ((l.length : Int) - i)))) + ((c + cntL a (m.drop j) : Nat) : Int))) l (l.length : Int) (wrap64 (B + 1))) r →
    Ev (fun k => spec_ptRank.l1 k l A i a (c : Int) l (l.length : Int) B m (m.length : Int) (j : Int)) r := by
  unfold cntL
  induction e with
  | zero =>
    intro j c hj ha h
    refine Ev.step (fun k => by rw [spec_ptRank.l1]) ?_
    refine evNeg (by omega) ?_
    rw [List.drop_of_length_le (by omega)] at h
    simpa using h
  | succ e ih =>
    intro j c hj ha h
    refine Ev.step (fun k => by rw [spec_ptRank.l1]) ?_
    rw [getD_drop_cons m j 0 (by omega), List.countP_cons] at h
    rw [i1o j (by omega), rdN]
    refine evPos (by omega) (evPos (by omega) (evPos (by omega) (evSplit (fun hc => ?_) (fun hc => ?_))))
    · rw [if_pos (by simpa using hc)] at h
      rw [show wrap64 ((c : Int) + 1) = ((c + 1 : Nat) : Int) from (w64 (by omega) (by omega)).trans (by omega)]
      refine ih (j + 1) (c + 1) (by omega) (by omega) ?_
      rw [show c + 1 + List.countP (fun b => decide (b < a)) (List.drop (j + 1) m) = c + (List.countP (fun b => decide (b < a)) (List.drop (j + 1) m) + 1) by omega]
      exact h
    · rw [if_neg (by simpa using hc)] at h
      exact ih (j + 1) c (by omega) (by omega) h
theorem rank_l0 (l : List Int) (hl : l.length ≤ 8) (e : Nat) : ∀ (i acc : Nat), i + e = l.length → acc + 1 ≤ 8 ^ i →
    Ev (fun k => spec_ptRank.l0 k l (acc : Int) l (l.length : Int) (i : Int)) ((rkA acc (l.drop i) : Nat) : Int) := by
  induction e with
  | zero =>
    intro i acc hi ha
    refine Ev.step (fun k => by rw [spec_ptRank.l0]) ?_
    refine evNeg (by omega) (evSome ?_)
    rw [List.drop_of_length_le (by omega)]
    rfl
  | succ e ih =>
    intro i acc hi ha
    refine Ev.step (fun k => by rw [spec_ptRank.l0]) ?_
    rw [i1o i (by omega), rdN, Int.toNat_natCast]
    refine evPos (by omega) (evPos (by omega) (evPos (by omega) (evPos (by omega) (evPos (by omega) ?_))))
    refine rank_l1 l (acc : Int) (i : Int) (i : Int) (l.getD i 0) (l.drop (i + 1)) (by rw [List.length_drop]; omega) _ (l.drop (i + 1)).length 0 0 (by omega) (by rw [List.length_drop]; omega) ?_
    rw [i1o i (by omega), List.drop_zero, Nat.zero_add]
    have hc := cntL_le (l.getD i 0) (l.drop (i + 1))
    rw [List.length_drop] at hc
    have hp : 8 ^ i ≤ 8 ^ 8 := Nat.pow_le_pow_right (by omega) (by omega)
    have hp8 : (8 : Nat) ^ 8 = 16777216 := by decide
    have hpi : 8 ^ (i + 1) = 8 ^ i * 8 := Nat.pow_succ _ _
    have hm : (acc + 1) * (l.length - i) ≤ 8 ^ i * 8 := Nat.mul_le_mul ha (by omega)
    rw [Nat.add_mul, Nat.one_mul] at hm
    have e1 : wrap64 ((l.length : Int) - (i : Int)) = ((l.length - i : Nat) : Int) := (w64 (by omega) (by omega)).trans (by omega)
    have e2 : (acc : Int) * ((l.length - i : Nat) : Int) = ((acc * (l.length - i) : Nat) : Int) := (Int.natCast_mul _ _).symm
    rw [e1, e2, w64 (x := ((acc * (l.length - i) : Nat) : Int)) (by omega) (by omega), ← Int.natCast_add, w64 (by omega) (by omega)]
    refine evEq (ih (i + 1) _ (by omega) (by omega)) ?_
    rw [getD_drop_cons l i 0 (by omega), rkA, List.length_drop, show l.length - (i + 1) + 1 = l.length - i by omega]
theorem ptRank_ev (l : List Int) (hl : l.length ≤ 8) : Ev (fun k => spec_ptRank.f k l) ((code l : Nat) : Int) := by
  unfold spec_ptRank.f
  have h := rank_l0 l hl l.length 0 0 (Nat.zero_add _) (by decide)
  rw [rkA_eq, Nat.zero_mul, Nat.zero_add, List.drop_zero] at h
  exact h
end Go.Proofs.Ytclmmnphmlmnmaa.X
end
section
/- Ranks: the order before which so many others come. -/
--! needs LBase LOrd LInvs LOrdP LRankA
namespace Go.Proofs.Ytclmmnphmlmnmaa.X
open Go.Proofs.Ytclmmnphmlmnmaa.Sq Go.RowKit Go.Proofs.YtclmmnphmlmnmaaW.PrintWords Go.Proofs.YtclmmnphmlmnmaaW.PrintLast Go.Proofs.YtclmmnphmlmnmaaW.PrintMore
attribute [local go_sem] max2_int min2_int max_two min_two max_three min_three max_four min_four   -- for this text's walks alone
set_option linter.unusedVariables false
set_option linter.unusedSimpArgs false
def unr : Nat → List Int → Nat → List Int
 | 0, _, _ => []
 | e + 1, L, r => L.getD (r / fct e) 0 :: unr e (L.eraseIdx (r / fct e)) (r % fct e)
/-- In a rising list the k-th has k below it. -/
theorem cnt_sorted : ∀ (L : List Int) (k : Nat) (h : k < L.length), L.Pairwise (· < ·) → cntL L[k] L = k
 | [], k, h, _ => by simp at h
 | a :: L, 0, h, hs => by
  rw [List.pairwise_cons] at hs
  show cntL a (a :: L) = 0
  rw [cntL_self]
  unfold cntL
  rw [List.countP_eq_zero]
  intro x hx
  have := hs.1 x hx
  simp
  omega
 | a :: L, k + 1, h, hs => by
  rw [List.pairwise_cons] at hs
  have hk : k < L.length := by simpa using h
  have ih := cnt_sorted L k hk hs.2
  show cntL L[k] (a :: L) = k + 1
  have := hs.1 L[k] (List.getElem_mem _)
  unfold cntL at ih ⊢
  rw [List.countP_cons, ih, if_pos (by simpa using this)]
theorem cntL_perm {a : Int} {l m : List Int} (h : l.Perm m) : cntL a l = cntL a m := h.countP_eq _
theorem sorted_erase {L : List Int} (h : L.Pairwise (· < ·)) (k : Nat) : (L.eraseIdx k).Pairwise (· < ·) := h.sublist (List.eraseIdx_sublist L k)
theorem perm_eraseIdx {L : List Int} {k : Nat} (h : k < L.length) : L.Perm (L[k] :: L.eraseIdx k) := by
  rw [List.eraseIdx_eq_take_drop_succ]
  conv => lhs; rw [← List.take_append_drop k L, List.drop_eq_getElem_cons h]
  exact List.perm_middle
/-- The order of a rank is found again. -/
theorem unr_code : ∀ (l L : List Int), L.Pairwise (· < ·) → l.Perm L → unr l.length L (code l) = l
 | [], _, _, _ => rfl
 | a :: t, L, hs, hp => by
  have hlt := code_lt t
  have hpos := fct_pos t.length
  have e1 : code (a :: t) / fct t.length = cntL a t := by
    rw [code, Nat.mul_comm, Nat.mul_add_div hpos, Nat.div_eq_of_lt hlt, Nat.add_zero]
  have e2 : code (a :: t) % fct t.length = code t := by
    rw [code, Nat.mul_comm, Nat.mul_add_mod, Nat.mod_eq_of_lt hlt]
  obtain ⟨j, hj, hja⟩ := List.getElem_of_mem (hp.mem_iff.1 (List.mem_cons_self (a := a) (l := t)))
  have hk : cntL a t = j := by
    rw [← cntL_self a t, cntL_perm hp, ← hja]
    exact cnt_sorted L j hj hs
  show L.getD (code (a :: t) / fct t.length) 0 :: unr t.length (L.eraseIdx (code (a :: t) / fct t.length)) (code (a :: t) % fct t.length) = a :: t
  rw [e1, e2, hk, ← getElem_getD L j 0 hj, hja]
  have hp2 : t.Perm (L.eraseIdx j) := by
    have h3 := hp.trans (perm_eraseIdx hj)
    rw [hja] at h3
    exact (List.perm_cons a).1 h3
  rw [unr_code t (L.eraseIdx j) (sorted_erase hs j) hp2]
/-- What is found has the rank, and the boats. -/
theorem unr_spec : ∀ (e : Nat) (L : List Int) (r : Nat), L.length = e → L.Pairwise (· < ·) → r < fct e → (unr e L r).Perm L ∧ code (unr e L r) = r
 | 0, L, r, h, _, hr => by
  have : r = 0 := by rw [fct] at hr; omega
  subst this
  obtain rfl : L = [] := List.eq_nil_of_length_eq_zero h
  exact ⟨List.Perm.refl _, rfl⟩
 | e + 1, L, r, h, hs, hr => by
  have hpos := fct_pos e
  have hk : r / fct e < L.length := by
    rw [h]
    exact (Nat.div_lt_iff_lt_mul hpos).2 (by rw [fct] at hr; exact hr)
  have hm : r % fct e < fct e := Nat.mod_lt _ hpos
  have hlen : (L.eraseIdx (r / fct e)).length = e := by rw [List.length_eraseIdx_of_lt hk]; omega
  obtain ⟨h1, h2⟩ := unr_spec e (L.eraseIdx (r / fct e)) (r % fct e) hlen (sorted_erase hs _) hm
  rw [unr, ← getElem_getD L _ 0 hk]
  have hp : (L[r / fct e] :: unr e (L.eraseIdx (r / fct e)) (r % fct e)).Perm L := (List.Perm.cons _ h1).trans (perm_eraseIdx hk).symm
  refine ⟨hp, ?_⟩
  have hlu : (unr e (L.eraseIdx (r / fct e)) (r % fct e)).length = e := by rw [h1.length_eq, hlen]
  have hc : cntL L[r / fct e] (unr e (L.eraseIdx (r / fct e)) (r % fct e)) = r / fct e := by
    rw [← cntL_self, cntL_perm hp]
    exact cnt_sorted L _ hk hs
  rw [code, hc, h2, hlu]
  have := Nat.div_add_mod r (fct e)
  rw [Nat.mul_comm]
  exact this
end Go.Proofs.Ytclmmnphmlmnmaa.X
end
section
/- A number within bounds. -/
--! needs impl_within spec_l1In
namespace Go.Proofs.Ytclmmnphmlmnmaa.X
open Go.Proofs.Ytclmmnphmlmnmaa.Sq Go.RowKit Go.Proofs.YtclmmnphmlmnmaaW.PrintWords Go.Proofs.YtclmmnphmlmnmaaW.PrintLast Go.Proofs.YtclmmnphmlmnmaaW.PrintMore
attribute [local go_sem] max2_int min2_int max_two min_two max_three min_three max_four min_four   -- for this text's walks alone
set_option linter.unusedVariables false
set_option linter.unusedSimpArgs false
def inB (a l h : Int) : Bool := decide (l ≤ a) && decide (a ≤ h)
theorem within_eq (a l h : Int) : impl_within.f a l h = some (inB a l h) := by
  unfold impl_within.f inB
  by_cases c : l ≤ a <;> simp [c]
end Go.Proofs.Ytclmmnphmlmnmaa.X
end
section
/- Ranks, orders of a rank, and how many are inverted: as the program tells them. -/
--! needs LBase LOrd LOrdP LInvs LRankA LUnr LBoA LIn impl_inverted impl_CountInverted impl_bit impl_factorial impl_RankOfOrder impl_right impl_OrderOfRank spec_OrderOfRank spec_RankOfOrder impl_areBoats impl_within slices_Delete_int
namespace Go.Proofs.Ytclmmnphmlmnmaa.X
open Go.Proofs.Ytclmmnphmlmnmaa.Sq Go.RowKit Go.Proofs.YtclmmnphmlmnmaaW.PrintWords Go.Proofs.YtclmmnphmlmnmaaW.PrintLast Go.Proofs.YtclmmnphmlmnmaaW.PrintMore
attribute [local go_sem] max2_int min2_int max_two min_two max_three min_three max_four min_four   -- for this text's walks alone
set_option linter.unusedVariables false
set_option linter.unusedSimpArgs false
theorem evM {α : Type} {g : Nat → Option α} {r : α} (hm : ∀ k, LeO (g k) (g (k + 1))) (K : Nat) (h : g K = some r) : Ev g r := by
  refine ⟨K, fun k hk => ?_⟩
  obtain ⟨d, rfl⟩ : ∃ d, k = K + d := ⟨k - K, by omega⟩
  clear hk
  induction d with
  | zero => exact h
  | succ d ih => exact hm _ _ ih
theorem fact_small : ∀ n : Fin 9, impl_factorial.f 20 ((n.1 : Nat) : Int) = some ((fct n.1 : Nat) : Int) := by decide +kernel
theorem fact_ev (n : Nat) (h : n ≤ 8) : Ev (fun k => impl_factorial.f k (n : Int)) ((fct n : Nat) : Int) := evM (fun k => impl_factorial.mono _ k) 20 (fact_small ⟨n, by omega⟩)
theorem right_small : ∀ n : Fin 9, impl_right.f 20 ((n.1 : Nat) : Int) = some (upL n.1) := by decide +kernel
theorem right_ev (n : Nat) (h : n ≤ 8) : Ev (fun k => impl_right.f k (n : Int)) (upL n) := evM (fun k => impl_right.mono _ k) 20 (right_small ⟨n, by omega⟩)
theorem fct_le8 : ∀ n : Fin 9, fct n.1 ≤ 40320 := by decide
theorem bit_eq (b : Bool) : impl_bit.f b = some (if b = true then 1 else 0) := by unfold impl_bit.f; cases b <;> rfl
theorem finv_l1 (l : List Int) (i : Int) (a : Int) (m : List Int) (hm : m.length ≤ 100) (r : Int) (e : Nat) : ∀ (j acc : Nat), j + e = m.length → acc + e ≤ 100000 →
    Ev (fun k => impl_inverted.l0 k l ((acc + (m.drop j).countP (fun b => decide (b < a)) : Nat) : Int) l (l.length : Int) (wrap64 (i + 1))) r →
    Ev (fun k => impl_inverted.l1 k l (acc : Int) a l (l.length : Int) i m (m.length : Int) (j : Int)) r := by
  induction e with
  | zero =>
    intro j acc hj ha h
    refine Ev.step (fun k => by rw [impl_inverted.l1]) ?_
    refine evNeg (by omega) ?_
    rw [List.drop_of_length_le (by omega)] at h
    simpa using h
  | succ e ih =>
    intro j acc hj ha h
    refine Ev.step (fun k => by rw [impl_inverted.l1]) ?_
    rw [getD_drop_cons m j 0 (by omega), List.countP_cons] at h
    rw [i1b j (by omega), rdB_]
    refine evPos (by omega) (evPos (by omega) (evPos (by omega) (evBind0 (bit_eq _) ?_)))
    by_cases hc : m.getD j 0 < a
    · rw [if_pos (by simpa using hc)] at h
      rw [if_pos (by simpa using hc)]
      rw [show wrap64 ((acc : Int) + 1) = ((acc + 1 : Nat) : Int) from (w64 (by omega) (by omega)).trans (by omega)]
      refine ih (j + 1) (acc + 1) (by omega) (by omega) ?_
      rw [show acc + 1 + List.countP (fun b => decide (b < a)) (List.drop (j + 1) m) = acc + (List.countP (fun b => decide (b < a)) (List.drop (j + 1) m) + 1) by omega]
      exact h
    · rw [if_neg (by simpa using hc)] at h
      rw [if_neg (by simpa using hc)]
      rw [show wrap64 ((acc : Int) + 0) = (acc : Int) from (w64 (by omega) (by omega)).trans (by omega)]
      exact ih (j + 1) acc (by omega) (by omega) h
theorem finv_l0 (l : List Int) (hl : l.length ≤ 100) (e : Nat) : ∀ (i acc : Nat), i + e = l.length → acc + e * 100 ≤ 20000 →
    Ev (fun k => impl_inverted.l0 k l (acc : Int) l (l.length : Int) (i : Int)) ((acc + invs (l.drop i) : Nat) : Int) := by
  induction e with
  | zero =>
    intro i acc hi ha
    refine Ev.step (fun k => by rw [impl_inverted.l0]) ?_
    refine evNeg (by omega) (evSome ?_)
    rw [List.drop_of_length_le (by omega)]
    simp [invs]
  | succ e ih =>
    intro i acc hi ha
    refine Ev.step (fun k => by rw [impl_inverted.l0]) ?_
    rw [i1b i (by omega), rdB_, Int.toNat_natCast]
    refine evPos (by omega) (evPos (by omega) (evPos (by omega) (evPos (by omega) (evPos (by omega) ?_))))
    refine finv_l1 l (i : Int) (l.getD i 0) (l.drop (i + 1)) (by rw [List.length_drop]; omega) _ (l.drop (i + 1)).length 0 acc (by omega) (by rw [List.length_drop]; omega) ?_
    rw [i1b i (by omega), List.drop_zero]
    have hc : (l.drop (i + 1)).countP (fun b => decide (b < l.getD i 0)) ≤ (l.drop (i + 1)).length := List.countP_le_length
    rw [List.length_drop] at hc
    refine evEq (ih (i + 1) _ (by omega) (by omega)) ?_
    rw [getD_drop_cons l i 0 (by omega)]
    simp only [invs]
    omega
def cinvF (l : List Int) : Int × Bool := if ordB l = true then (((invs l : Nat) : Int), true) else (0, false)
theorem CountInverted_impl (l : List Int) (hl : l.length ≤ 100000) : Ev (fun k => impl_CountInverted.f k l) (cinvF l) := by
  unfold impl_CountInverted.f cinvF
  refine evBind0 (IsOrder_eq l (by omega)) ?_
  cases h1 : ordB l with
  | false => rw [if_neg (by simp)]; exact evNeg (by simp) (evSome rfl)
  | true =>
    rw [if_pos rfl]
    have h8 := ordB_len l h1
    have h := finv_l0 l (by omega) l.length 0 0 (Nat.zero_add _) (by omega)
    unfold impl_inverted.f
    exact evPos rfl (Ev.bind (by simpa using h) (evSome rfl))
/-! ### Ranks -/
theorem frank_l1 (l : List Int) (A i : Int) (a : Int) (B : Int) (m : List Int) (hm : m.length ≤ 100) (r : Int × Bool) (e : Nat) : ∀ (j c : Nat), j + e = m.length → c + e ≤ 100000 →
    Ev (fun k => (impl_factorial.f k (wrap64 ((wrap64 ((l.length : Int) - 1)) - i))).bind fun t => impl_RankOfOrder.l0 k l (wrap64 (A + (wrap64 (((c + cntL a (m.drop j) : Nat) : Int) * t)))) l (l.length : Int) (wrap64 (B + 1))) r →
    Ev (fun k => impl_RankOfOrder.l1 k l A i a (c : Int) l (l.length : Int) B m (m.length : Int) (j : Int)) r := by
  unfold cntL
  induction e with
  | zero =>
    intro j c hj ha h
    refine Ev.step (fun k => by rw [impl_RankOfOrder.l1]) ?_
    refine evNeg (by omega) ?_
    rw [List.drop_of_length_le (by omega)] at h
    simpa using h
  | succ e ih =>
    intro j c hj ha h
    refine Ev.step (fun k => by rw [impl_RankOfOrder.l1]) ?_
    rw [getD_drop_cons m j 0 (by omega), List.countP_cons] at h
    rw [i1b j (by omega), rdB_]
    refine evPos (by omega) (evPos (by omega) (evPos (by omega) (evBind0 (bit_eq _) ?_)))
    by_cases hc : m.getD j 0 < a
    · rw [if_pos (by simpa using hc)] at h
      rw [if_pos (by simpa using hc)]
      rw [show wrap64 ((c : Int) + 1) = ((c + 1 : Nat) : Int) from (w64 (by omega) (by omega)).trans (by omega)]
      refine ih (j + 1) (c + 1) (by omega) (by omega) ?_
      rw [show c + 1 + List.countP (fun b => decide (b < a)) (List.drop (j + 1) m) = c + (List.countP (fun b => decide (b < a)) (List.drop (j + 1) m) + 1) by omega]
      exact h
    · rw [if_neg (by simpa using hc)] at h
      rw [if_neg (by simpa using hc)]
      rw [show wrap64 ((c : Int) + 0) = (c : Int) from (w64 (by omega) (by omega)).trans (by omega)]
      exact ih (j + 1) c (by omega) (by omega) h
theorem frank_l0 (l : List Int) (hl : l.length ≤ 8) (e : Nat) : ∀ (i acc : Nat), i + e = l.length → acc + e * 400000 ≤ 4000000 →
    Ev (fun k => impl_RankOfOrder.l0 k l (acc : Int) l (l.length : Int) (i : Int)) (((acc + code (l.drop i) : Nat) : Int), true) := by
  induction e with
  | zero =>
    intro i acc hi ha
    refine Ev.step (fun k => by rw [impl_RankOfOrder.l0]) ?_
    refine evNeg (by omega) (evSome ?_)
    rw [List.drop_of_length_le (by omega)]
    rfl
  | succ e ih =>
    intro i acc hi ha
    refine Ev.step (fun k => by rw [impl_RankOfOrder.l0]) ?_
    rw [i1b i (by omega), rdB_, Int.toNat_natCast]
    refine evPos (by omega) (evPos (by omega) (evPos (by omega) (evPos (by omega) (evPos (by omega) ?_))))
    refine frank_l1 l (acc : Int) (i : Int) (l.getD i 0) (i : Int) (l.drop (i + 1)) (by rw [List.length_drop]; omega) _ (l.drop (i + 1)).length 0 0 (by omega) (by rw [List.length_drop]; omega) ?_
    have e1 : wrap64 (wrap64 ((l.length : Int) - 1) - (i : Int)) = ((l.length - (i + 1) : Nat) : Int) := by
      rw [w64 (x := (l.length : Int) - 1) (by omega) (by omega)]
      exact (w64 (by omega) (by omega)).trans (by omega)
    rw [e1]
    refine Ev.bind (fact_ev (l.length - (i + 1)) (by omega)) ?_
    have hf := fct_le8 ⟨l.length - (i + 1), by omega⟩
    simp only at hf
    have hc := cntL_le (l.getD i 0) (l.drop (i + 1))
    rw [List.length_drop] at hc
    have hm : cntL (l.getD i 0) (l.drop (i + 1)) * fct (l.length - (i + 1)) ≤ 8 * 40320 := Nat.mul_le_mul (by omega) hf
    rw [i1b i (by omega), List.drop_zero, Nat.zero_add, ← Int.natCast_mul, w64 (x := ((cntL (l.getD i 0) (l.drop (i + 1)) * fct (l.length - (i + 1)) : Nat) : Int)) (by omega) (by omega), ← Int.natCast_add, w64 (by omega) (by omega)]
    refine evEq (ih (i + 1) _ (by omega) (by omega)) ?_
    rw [getD_drop_cons l i 0 (by omega), code, List.length_drop]
    congr 2
    omega
def rankF (l : List Int) : Int × Bool := if ordB l = true then (((code l : Nat) : Int), true) else (0, false)
theorem Rank_impl (l : List Int) (hl : l.length ≤ 100000) : Ev (fun k => impl_RankOfOrder.f k l) (rankF l) := by
  unfold impl_RankOfOrder.f rankF
  refine evBind0 (IsOrder_eq l (by omega)) ?_
  cases h1 : ordB l with
  | false => rw [if_neg (by simp)]; exact evNeg (by simp) (evSome rfl)
  | true =>
    rw [if_pos rfl]
    have h8 := ordB_len l h1
    have h := frank_l0 l (by omega) l.length 0 0 (Nat.zero_add _) (by omega)
    exact evPos rfl (by simpa using h)
theorem Rank_spec (l : List Int) : Ev (fun k => spec_RankOfOrder.f k l) (rankF l) := by
  unfold spec_RankOfOrder.f rankF
  refine Ev.bind (ptGood_ev l) ?_
  cases h1 : ordB l with
  | false => rw [if_neg (by simp)]; exact evNeg (by simp) (evSome rfl)
  | true =>
    rw [if_pos rfl]
    have h8 := ordB_len l h1
    exact evPos rfl (Ev.bind (ptRank_ev l (by omega)) (evSome rfl))
/-! ### The order of a rank -/
theorem ford_l0 : ∀ (e : Nat) (L out : List Int) (r : Nat), L.length = e → e ≤ 8 → r < fct e → out.length + e ≤ 1000 → Ev (fun k => impl_OrderOfRank.l0 k (r : Int) L out) (out ++ unr e L r, true) := by
  intro e
  induction e with
  | zero =>
    intro L out r hL he hr ho
    refine Ev.step (fun k => by rw [impl_OrderOfRank.l0]) ?_
    refine evNeg (by omega) (evSome ?_)
    simp [unr]
  | succ e ih =>
    intro L out r hL he hr ho
    refine Ev.step (fun k => by rw [impl_OrderOfRank.l0]) ?_
    have hp := fct_pos e
    have hq : r / fct e < e + 1 := by
      rw [Nat.div_lt_iff_lt_mul hp]
      exact hr
    have hmod := Nat.mod_lt r hp
    refine evPos (by omega) ?_
    rw [show wrap64 ((L.length : Int) - 1) = (e : Int) from (w64 (by omega) (by omega)).trans (by omega)]
    refine Ev.bind (fact_ev e (by omega)) (evNeg (by omega) ?_)
    have e1 : Int.tdiv (r : Int) ((fct e : Nat) : Int) = ((r / fct e : Nat) : Int) := rfl
    have e2 : Int.tmod (r : Int) ((fct e : Nat) : Int) = ((r % fct e : Nat) : Int) := rfl
    have hu : unr (e + 1) L r = L.getD (r / fct e) 0 :: unr e (L.eraseIdx (r / fct e)) (r % fct e) := rfl
    rw [hu]
    generalize r / fct e = q at e1 hq ⊢
    rw [e1, e2, w64 (x := (q : Int)) (by omega) (by omega), i1b q (by omega), rdB_]
    have hd : slices_Delete_int.f L (q : Int) ((q + 1 : Nat) : Int) = some (L.eraseIdx q) := by
      unfold slices_Delete_int.f
      rw [if_pos (by omega), Int.toNat_natCast]
    refine evPos (by omega) (evPos (by omega) (evPos (by omega) (evBind0 hd ?_)))
    refine evEq (ih (L.eraseIdx q) _ (r % fct e) (by rw [List.length_eraseIdx_of_lt (by omega)]; omega) (by omega) hmod (by rw [List.length_append, List.length_singleton]; omega)) ?_
    simp
def ordF (m r : Int) : List Int × Bool := if 1 ≤ m ∧ m ≤ 8 ∧ 0 ≤ r ∧ r < ((fct m.toNat : Nat) : Int) then (unr m.toNat (upL m.toNat) r.toNat, true) else ([], false)
theorem Order_impl (m r : Int) : Ev (fun k => impl_OrderOfRank.f k m r) (ordF m r) := by
  have no : Ev (fun k => impl_OrderOfRank.j0 k m r true) ([], false) := Ev.step (fun k => by rw [impl_OrderOfRank.j0]) (evPos rfl (evSome rfl))
  have hb : impl_areBoats.f m = some (inB m 1 8) := by
    unfold impl_areBoats.f
    rw [within_eq]
    rfl
  unfold impl_OrderOfRank.f ordF
  refine evBind0 hb ?_
  by_cases hm : 1 ≤ m ∧ m ≤ 8
  · have e1 : inB m 1 8 = true := by unfold inB; simp; exact hm
    rw [e1]
    obtain ⟨n, rfl⟩ : ∃ n : Nat, m = (n : Int) := ⟨m.toNat, by omega⟩
    have hf := fct_le8 ⟨n, by omega⟩
    have hp := fct_pos n
    simp only at hf
    refine evPos rfl (Ev.bind (fact_ev n (by omega)) (evBind0 (within_eq _ _ _) ?_))
    rw [Int.toNat_natCast, w64 (x := ((fct n : Nat) : Int) - 1) (by omega) (by omega)]
    by_cases hr : 0 ≤ r ∧ r < ((fct n : Nat) : Int)
    · have e2 : inB r 0 (((fct n : Nat) : Int) - 1) = true := by unfold inB; simp; omega
      rw [e2, if_pos (by omega)]
      obtain ⟨q, rfl⟩ : ∃ q : Nat, r = (q : Int) := ⟨r.toNat, by omega⟩
      refine Ev.step (fun k => by rw [impl_OrderOfRank.j0]) (evNeg (by simp) (Ev.bind (right_ev n (by omega)) ?_))
      rw [Int.toNat_natCast]
      have := ford_l0 n (upL n) [] q (upL_len n) (by omega) (by omega) (by simp; omega)
      simpa using this
    · have e2 : inB r 0 (((fct n : Nat) : Int) - 1) = false := by
        unfold inB
        rcases Decidable.em (0 ≤ r) with h | h
        · rw [decide_eq_false (show ¬ r ≤ ((fct n : Nat) : Int) - 1 by omega), Bool.and_false]
        · rw [decide_eq_false (show ¬ 0 ≤ r by omega), Bool.false_and]
      rw [e2, if_neg (by omega)]
      exact no
  · have e1 : inB m 1 8 = false := by
      unfold inB
      rcases Decidable.em (1 ≤ m) with h | h
      · rw [decide_eq_false (show ¬ m ≤ 8 by omega), Bool.and_false]
      · rw [decide_eq_false (show ¬ 1 ≤ m by omega), Bool.false_and]
    rw [e1, if_neg (by omega)]
    exact evNeg (by simp) no
end Go.Proofs.Ytclmmnphmlmnmaa.X
end
