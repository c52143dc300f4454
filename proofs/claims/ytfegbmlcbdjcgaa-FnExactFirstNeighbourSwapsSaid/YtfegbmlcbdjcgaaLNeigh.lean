/- Swaps of neighbours: how many two are inverted, and the list of first swaps. -/
--! needs LBase LOrd spec_ptInverted spec_FirstNeighbourSwaps impl_FirstNeighbourSwaps
import Derived.Test.YtfegbmlcbdjcgaaX0
import Derived.Test.YtfegbmlcbdjcgaaX3
import Derived.Test.YtfegbmlcbdjcgaaX4
import Derived.Test.YtfegbmlcbdjcgaaX6
import Derived.Test.YtfegbmlcbdjcgaaLBase
import Derived.Test.YtfegbmlcbdjcgaaLOrd
namespace Go.Proofs.Ytfegbmlcbdjcgaa.X
open Go.Proofs.Ytfegbmlcbdjcgaa.Sq Go.RowKit Go.Proofs.YtfegbmlcbdjcgaaW.PrintWords Go.Proofs.YtfegbmlcbdjcgaaW.PrintLast Go.Proofs.YtfegbmlcbdjcgaaW.PrintMore
attribute [local go_sem] max2_int min2_int max_two min_two max_three min_three max_four min_four   -- for this text's walks alone
set_option linter.unusedVariables false
set_option linter.unusedSimpArgs false

def invs : List Int → Nat
 | [] => 0
 | a :: l => l.countP (fun b => decide (b < a)) + invs l
def swN (l : List Int) (i : Nat) : List Int := (l.set i (l.getD (i + 1) 0)).set (i + 1) (l.getD i 0)
theorem swN_len (l : List Int) (i : Nat) : (swN l i).length = l.length := by simp [swN]
theorem swN_zero (a b : Int) (t : List Int) : swN (a :: b :: t) 0 = b :: a :: t := rfl
theorem swN_succ (c : Int) (t : List Int) (i : Nat) : swN (c :: t) (i + 1) = c :: swN t i := by
  unfold swN
  simp
theorem swN_count (p : Int → Bool) : ∀ (i : Nat) (l : List Int), i + 1 < l.length → (swN l i).countP p = l.countP p
 | 0, a :: b :: t, _ => by
  rw [swN_zero]
  simp only [List.countP_cons]
  omega
 | 0, [a], h => by simp at h
 | 0, [], h => by simp at h
 | i + 1, [], h => by simp at h
 | i + 1, c :: t, h => by
  rw [swN_succ, List.countP_cons, List.countP_cons, swN_count p i t (by simpa using h)]
/-- Place i and the next one are inverted. -/
def descN (l : List Int) (i : Nat) : Prop := i + 1 < l.length ∧ l.getD (i + 1) 0 < l.getD i 0
instance (l : List Int) (i : Nat) : Decidable (descN l i) := inferInstanceAs (Decidable (_ ∧ _))
theorem invs_swap : ∀ (i : Nat) (l : List Int), descN l i → invs l = invs (swN l i) + 1
 | 0, a :: b :: t, h => by
  have hb : b < a := by simpa [descN] using h.2
  rw [swN_zero]
  simp only [invs, List.countP_cons]
  rw [if_pos (by simpa using hb), if_neg (by simp; omega)]
  omega
 | 0, [a], h => by have := h.1; simp at this
 | 0, [], h => by have := h.1; simp at this
 | i + 1, [], h => by have := h.1; simp at this
 | i + 1, c :: t, h => by
  have h1 := h.1
  have h2 := h.2
  simp only [List.length_cons] at h1
  rw [List.getD_cons_succ, List.getD_cons_succ] at h2
  rw [swN_succ]
  simp only [invs]
  rw [swN_count _ i t (by omega), invs_swap i t ⟨by omega, h2⟩]
  omega
theorem invs_none : ∀ (l : List Int), (∀ i, ¬ descN l i) → invs l = 0
 | [], _ => rfl
 | [a], _ => by simp [invs]
 | a :: b :: t, h => by
  have ht := invs_none (b :: t) (fun i hi => h (i + 1) ⟨by have := hi.1; simp at this ⊢; omega, by rw [List.getD_cons_succ, List.getD_cons_succ]; exact hi.2⟩)
  have h0 : ¬ b < a := fun hb => h 0 ⟨by simp, by simpa using hb⟩
  have hc : (b :: t).countP (fun x => decide (x < a)) = 0 := by
    rw [List.countP_eq_zero]
    intro x hx
    simp only [decide_eq_true_eq]
    rcases List.mem_cons.1 hx with rfl | hx
    · exact h0
    · have hz : t.countP (fun x => decide (x < b)) = 0 := by simp only [invs] at ht; omega
      have := List.countP_eq_zero.1 hz x hx
      simp only [decide_eq_true_eq] at this
      omega
  show (b :: t).countP _ + invs (b :: t) = 0
  rw [hc, ht]
theorem invs_le : ∀ l : List Int, invs l ≤ l.length * l.length
 | [] => Nat.le_refl _
 | a :: l => by
  have h1 := invs_le l
  have h2 : l.countP (fun b => decide (b < a)) ≤ l.length := List.countP_le_length
  simp only [invs, List.length_cons]
  have h3 : (l.length + 1) * (l.length + 1) = l.length * l.length + l.length + l.length + 1 := by
    rw [Nat.succ_mul, Nat.mul_succ]
    omega
  rw [h3]
  omega
/-- o is the list of first swaps. -/
inductive NB : List Int → List Int → Prop
 | stop {l : List Int} (h : ∀ i, ¬ descN l i) : NB l []
 | step {l o : List Int} (i : Nat) (h : descN l i) (hf : ∀ j, j < i → ¬ descN l j) (ht : NB (swN l i) o) : NB l ((i : Int) :: o)
theorem first_desc (l : List Int) : (∀ i, ¬ descN l i) ∨ ∃ i, descN l i ∧ ∀ j, j < i → ¬ descN l j := by
  have h : ∀ n, (∀ j, j < n → ¬ descN l j) ∨ ∃ i, descN l i ∧ ∀ j, j < i → ¬ descN l j := by
    intro n
    induction n with
    | zero => exact .inl fun j hj => absurd hj (Nat.not_lt_zero j)
    | succ n ih =>
      rcases ih with ih | ih
      · by_cases c : descN l n
        · exact .inr ⟨n, c, ih⟩
        · refine .inl fun j hj => ?_
          rcases Nat.lt_succ_iff_lt_or_eq.1 hj with h | rfl
          · exact ih j h
          · exact c
      · exact .inr ih
  rcases h l.length with h | h
  · exact .inl fun i hi => h i (by have := hi.1; omega) hi
  · exact .inr h
theorem nb_some : ∀ (n : Nat) (l : List Int), invs l = n → ∃ o, NB l o ∧ o.length = n := by
  intro n
  induction n with
  | zero =>
    intro l hl
    refine ⟨[], .stop fun i hi => ?_, rfl⟩
    have := invs_swap i l hi
    omega
  | succ n ih =>
    intro l hl
    rcases first_desc l with h | ⟨i, h, hf⟩
    · rw [invs_none l h] at hl
      cases hl
    · have hs := invs_swap i l h
      obtain ⟨o, ho, hn⟩ := ih (swN l i) (by omega)
      exact ⟨_, .step i h hf ho, by simp [hn]⟩
theorem rdN (l : List Int) (i : Nat) : rd l (i : Int) = l.getD i 0 := by unfold rd; rw [Int.toNat_natCast]
theorem inv_l1 (l : List Int) (i : Int) (a : Int) (m : List Int) (hm : m.length ≤ 100) (r : Int) (e : Nat) : ∀ (j acc : Nat), j + e = m.length → acc + e ≤ 100000 →
    Ev (fun k => spec_ptInverted.l0 k l ((acc + (m.drop j).countP (fun b => decide (b < a)) : Nat) : Int) l (l.length : Int) (wrap64 (i + 1))) r →
    Ev (fun k => spec_ptInverted.l1 k l (acc : Int) a l (l.length : Int) i m (m.length : Int) (j : Int)) r := by
  induction e with
  | zero =>
    intro j acc hj ha h
    refine Ev.step (fun k => by rw [spec_ptInverted.l1]) ?_
    refine evNeg (by omega) ?_
    rw [List.drop_of_length_le (by omega)] at h
    simpa using h
  | succ e ih =>
    intro j acc hj ha h
    refine Ev.step (fun k => by rw [spec_ptInverted.l1]) ?_
    rw [getD_drop_cons m j 0 (by omega), List.countP_cons] at h
    rw [i1o j (by omega), rdN]
    refine evPos (by omega) (evPos (by omega) (evPos (by omega) (evSplit (fun c => ?_) (fun c => ?_))))
    · rw [if_pos (by simpa using c)] at h
      rw [show wrap64 ((acc : Int) + 1) = ((acc + 1 : Nat) : Int) from (w64 (by omega) (by omega)).trans (by omega)]
      refine ih (j + 1) (acc + 1) (by omega) (by omega) ?_
      rw [show acc + 1 + List.countP (fun b => decide (b < a)) (List.drop (j + 1) m) = acc + (List.countP (fun b => decide (b < a)) (List.drop (j + 1) m) + 1) by omega]
      exact h
    · rw [if_neg (by simpa using c)] at h
      exact ih (j + 1) acc (by omega) (by omega) h
theorem inv_l0 (l : List Int) (hl : l.length ≤ 100) (e : Nat) : ∀ (i acc : Nat), i + e = l.length → acc + e * 100 ≤ 20000 →
    Ev (fun k => spec_ptInverted.l0 k l (acc : Int) l (l.length : Int) (i : Int)) ((acc + invs (l.drop i) : Nat) : Int) := by
  induction e with
  | zero =>
    intro i acc hi ha
    refine Ev.step (fun k => by rw [spec_ptInverted.l0]) ?_
    refine evNeg (by omega) (evSome ?_)
    rw [List.drop_of_length_le (by omega)]
    simp [invs]
  | succ e ih =>
    intro i acc hi ha
    refine Ev.step (fun k => by rw [spec_ptInverted.l0]) ?_
    rw [i1o i (by omega), rdN, Int.toNat_natCast]
    refine evPos (by omega) (evPos (by omega) (evPos (by omega) (evPos (by omega) (evPos (by omega) ?_))))
    refine inv_l1 l (i : Int) (l.getD i 0) (l.drop (i + 1)) (by rw [List.length_drop]; omega) _ (l.drop (i + 1)).length 0 acc (by omega) (by rw [List.length_drop]; omega) ?_
    rw [i1o i (by omega), List.drop_zero]
    have hc : (l.drop (i + 1)).countP (fun b => decide (b < l.getD i 0)) ≤ (l.drop (i + 1)).length := List.countP_le_length
    rw [List.length_drop] at hc
    refine evEq (ih (i + 1) _ (by omega) (by omega)) ?_
    rw [getD_drop_cons l i 0 (by omega)]
    simp only [invs]
    omega
theorem ptInverted_ev (l : List Int) (hl : l.length ≤ 100) : Ev (fun k => spec_ptInverted.f k l) ((invs l : Nat) : Int) := by
  unfold spec_ptInverted.f
  have h := inv_l0 l hl l.length 0 0 (Nat.zero_add _) (by omega)
  simpa using h
theorem ptSwap_N (l : List Int) (i : Nat) (h : i + 1 < l.length) (hl : l.length ≤ 1000) : spec_ptSwap.f l (i : Int) ((i + 1 : Nat) : Int) = some (swN l i) := by
  unfold spec_ptSwap.f spec_l1Own.f
  simp only [Option.bind_some, List.nil_append, List.length_nil, Nat.zero_add]
  rw [if_pos (by omega)]
  simp only [Option.bind_some]
  rw [if_pos (by omega), if_pos (by omega), if_pos (by omega), if_pos (by omega), if_pos (by omega), if_pos (by omega), rdN, rdN, Int.toNat_natCast, Int.toNat_natCast]
  rfl
theorem nb_spec {l o : List Int} (h : NB l o) : ∀ out : List Int, l.length ≤ 8 → out.length + o.length ≤ 100000 → Ev (fun k => spec_FirstNeighbourSwaps.l0 k out l) (out ++ o, true) := by
  induction h with
  | stop h =>
    intro out hl ho
    refine Ev.step (fun k => by rw [spec_FirstNeighbourSwaps.l0]) ?_
    refine Ev.bind (ptInverted_ev _ (by omega)) ?_
    rw [invs_none _ h]
    exact evNeg (by decide) (evSome (by simp))
  | @step l o i h hf ht ih =>
    intro out hl ho
    rw [List.length_cons] at ho
    refine Ev.step (fun k => by rw [spec_FirstNeighbourSwaps.l0]) ?_
    refine Ev.bind (ptInverted_ev _ (by omega)) ?_
    have hs := invs_swap i l h
    refine evPos (by omega) ?_
    have hw : ∀ (e j : Nat), j + e = i → Ev (fun k => spec_FirstNeighbourSwaps.l1 k out l ((j + 1 : Nat) : Int)) (out ++ (i : Int) :: o, true) := by
      intro e
      induction e with
      | zero =>
        intro j hj
        obtain rfl : j = i := by omega
        have h1 := h.1
        have h2 := h.2
        refine Ev.step (fun k => by rw [spec_FirstNeighbourSwaps.l1]) ?_
        rw [show wrap64 (((j + 1 : Nat) : Int) - 1) = (j : Int) from (w64 (by omega) (by omega)).trans (by omega), rdN, rdN]
        refine evPos (by omega) (evPos (by omega) (evPos (by omega) (evPos (by omega) (evPos h2 (evPos (by omega) (evBind0 (ptSwap_N l j h1 (by omega)) ?_))))))
        refine evEq (ih (out ++ [(j : Int)]) (by rw [swN_len]; exact hl) (by simp; omega)) (by simp)
      | succ e ihe =>
        intro j hj
        have hd := hf j (by omega)
        have h1 := h.1
        refine Ev.step (fun k => by rw [spec_FirstNeighbourSwaps.l1]) ?_
        rw [show wrap64 (((j + 1 : Nat) : Int) - 1) = (j : Int) from (w64 (by omega) (by omega)).trans (by omega), rdN, rdN, i1o (j + 1) (by omega)]
        refine evPos (by omega) (evPos (by omega) (evPos (by omega) (evPos (by omega) (evNeg (fun c => hd ⟨by omega, c⟩) ?_))))
        exact ihe (j + 1) (by omega)
    exact hw i 0 (Nat.zero_add _)
theorem nb_impl {l o : List Int} (h : NB l o) : ∀ out : List Int, l.length ≤ 8 → l.Nodup → out.length + o.length ≤ 100000 → Ev (fun k => impl_FirstNeighbourSwaps.l0 k l out 0) (out ++ o, true) := by
  have up : ∀ (l : List Int), l.length ≤ 8 → l.Nodup → ∀ j, j + 1 < l.length → ¬ descN l j → l.getD j 0 < l.getD (j + 1) 0 := by
    intro l hl hn j hj hd
    have h1 : ¬ l.getD (j + 1) 0 < l.getD j 0 := fun c => hd ⟨hj, c⟩
    have h2 : l.getD j 0 ≠ l.getD (j + 1) 0 := by
      rw [← getElem_getD l j 0 (by omega), ← getElem_getD l (j + 1) 0 hj]
      intro e
      have := (List.getElem_inj hn).1 e
      omega
    omega
  induction h with
  | @stop l h =>
    intro out hl hn ho
    have hw : ∀ (e j : Nat), j + e = l.length → Ev (fun k => impl_FirstNeighbourSwaps.l0 k l out (j : Int)) (out ++ [], true) := by
      intro e
      induction e with
      | zero =>
        intro j hj
        refine Ev.step (fun k => by rw [impl_FirstNeighbourSwaps.l0]) ?_
        rw [i1o j (by omega)]
        exact evNeg (by omega) (evSome (by simp))
      | succ e ihe =>
        intro j hj
        refine Ev.step (fun k => by rw [impl_FirstNeighbourSwaps.l0]) ?_
        rw [i1o j (by omega), rdN, rdN]
        by_cases c : j + 1 < l.length
        · exact evPos (by omega) (evPos (by omega) (evPos (by omega) (evPos (by omega) (evPos (up l hl hn j c (h j)) (ihe (j + 1) (by omega))))))
        · exact evNeg (by omega) (evSome (by simp))
    exact hw l.length 0 (Nat.zero_add _)
  | @step l o i h hf ht ih =>
    intro out hl hn ho
    rw [List.length_cons] at ho
    have hw : ∀ (e j : Nat), j + e = i → Ev (fun k => impl_FirstNeighbourSwaps.l0 k l out (j : Int)) (out ++ (i : Int) :: o, true) := by
      intro e
      induction e with
      | zero =>
        intro j hj
        obtain rfl : j = i := by omega
        have h1 := h.1
        have h2 := h.2
        refine Ev.step (fun k => by rw [impl_FirstNeighbourSwaps.l0]) ?_
        rw [i1o j (by omega), rdN, rdN, Int.toNat_natCast, Int.toNat_natCast]
        refine evPos (by omega) (evPos (by omega) (evPos (by omega) (evPos (by omega) (evNeg (by omega) (evPos (by omega) ?_)))))
        have hp : (swN l j).Nodup := by
          rw [List.nodup_iff_count] at hn ⊢
          intro a
          rw [List.count_eq_countP, swN_count _ j l h1, ← List.count_eq_countP]
          exact hn a
        exact evEq (ih (out ++ [(j : Int)]) (by rw [swN_len]; exact hl) hp (by simp; omega)) (by simp)
      | succ e ihe =>
        intro j hj
        have h1 := h.1
        refine Ev.step (fun k => by rw [impl_FirstNeighbourSwaps.l0]) ?_
        rw [i1o j (by omega), rdN, rdN]
        exact evPos (by omega) (evPos (by omega) (evPos (by omega) (evPos (by omega) (evPos (up l hl hn j (by omega) (hf j (by omega))) (ihe (j + 1) (by omega))))))
    exact hw i 0 (Nat.zero_add _)
theorem ordB_nodup (l : List Int) (h : ordB l = true) : l.Nodup := by
  unfold ordB at h
  simp only [Bool.and_eq_true, decide_eq_true_eq] at h
  exact ((iso_iff l).1 h.1).2
end Go.Proofs.Ytfegbmlcbdjcgaa.X
