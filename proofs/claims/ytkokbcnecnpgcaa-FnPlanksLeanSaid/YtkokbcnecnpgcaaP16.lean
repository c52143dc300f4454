import Derived.Test.YtkokbcnecnpgcaaP1
import Derived.Test.YtkokbcnecnpgcaaP4
import Derived.Test.YtkokbcnecnpgcaaP5
import Derived.Test.YtkokbcnecnpgcaaP6
import Derived.Test.YtkokbcnecnpgcaaP7
import Derived.Test.YtkokbcnecnpgcaaP8
import Derived.Test.YtkokbcnecnpgcaaP9
import Derived.Test.YtkokbcnecnpgcaaP10
import Derived.Test.YtkokbcnecnpgcaaP15
import Derived.ChangeArms
import Derived.Deep.Slices
import Derived.WideShapes
import Derived.Carry
section
/- All leans: those without a common divisor; the reference's list and the program's. -/
--! needs LBase LPlank LPlankW LPlankU impl_PrimeLeans spec_cnAll spec_LeansUpTo spec_PrimeLeans impl_common impl_LeansUpTo
namespace Go.Proofs.Ytkokbcnecnpgcaa.X
open Go.Proofs.Ytkokbcnecnpgcaa.Sq Go.RowKit Go.Proofs.YtkokbcnecnpgcaaW.PrintWords Go.Proofs.YtkokbcnecnpgcaaW.PrintLast Go.Proofs.YtkokbcnecnpgcaaW.PrintMore
attribute [local go_sem] max2_int min2_int max_two min_two max_three min_three max_four min_four   -- for this text's walks alone
set_option linter.unusedVariables false
set_option linter.unusedSimpArgs false
theorem tmod_nn (a b : Nat) : Int.tmod (a : Int) (b : Int) = ((a % b : Nat) : Int) := by
  rw [Int.tmod_eq_emod_of_nonneg (by omega)]
  omega
theorem common_ev : ∀ (n a b : Nat), b ≤ n → Ev (fun k => impl_common.l0 k (a : Int) (b : Int)) ((Nat.gcd a b : Nat) : Int) := by
  intro n
  induction n with
  | zero =>
    intro a b hb
    obtain rfl : b = 0 := by omega
    refine Ev.step (fun k => by rw [impl_common.l0]) ?_
    exact evNeg (by omega) (evSome (by rw [Nat.gcd_zero_right]))
  | succ n ih =>
    intro a b hb
    refine Ev.step (fun k => by rw [impl_common.l0]) ?_
    by_cases h0 : b = 0
    · subst h0
      exact evNeg (by omega) (evSome (by rw [Nat.gcd_zero_right]))
    · rw [tmod_nn]
      refine evPos (by omega) (evNeg (by omega) (evEq (ih b (a % b) ?_) ?_))
      · have := Nat.mod_lt a (show 0 < b by omega)
        omega
      · rw [Nat.gcd_comm a b, Nat.gcd_rec b a, Nat.gcd_comm]
def row3 (q : Nat × Nat) (p : Nat) : List Int := [(q.1 : Int), (q.2 : Int), (p : Int)]
def primeQ (q : Nat × Nat) : Bool := decide (Nat.gcd q.1 q.2 = 1)
theorem lit_ev (q : Nat × Nat) (p : Nat) : Ev (fun k => impl_PrimeLeans_1.f k (row3 q p)) (decide (1 < Nat.gcd q.1 q.2)) := by
  unfold impl_PrimeLeans_1.f row3
  refine evPos (by simp) (evPos (by simp) (Ev.bind (a := ((Nat.gcd q.1 q.2 : Nat) : Int)) ?_ (evSome ?_)))
  · exact common_ev q.2 q.1 q.2 (Nat.le_refl _)
  · simp only [decide_eq_decide]
    omega
/-- Pairs with their plank. -/
def pairsF : Nat → Nat → List ((Nat × Nat) × Nat)
 | 0, _ => []
 | e + 1, p => ((leansL p).map fun q => (q, p)) ++ pairsF e (p + 1)
def rowOf (x : (Nat × Nat) × Nat) : List Int := row3 x.1 x.2
theorem allF_pairs : ∀ e p, allF e p = (pairsF e p).map rowOf
 | 0, _ => rfl
 | e + 1, p => by
  rw [allF, pairsF, List.map_append, allF_pairs e (p + 1), List.map_map]
  rfl
theorem pairsF_mem : ∀ e p x, x ∈ pairsF e p ↔ (p ≤ x.2 ∧ x.2 < p + e ∧ x.1 ∈ leansL x.2)
 | 0, p, x => by simp [pairsF]; omega
 | e + 1, p, x => by
  rw [pairsF, List.mem_append, pairsF_mem e (p + 1) x, List.mem_map]
  constructor
  · rintro (⟨q, hq, rfl⟩ | ⟨h1, h2, h3⟩)
    · exact ⟨Nat.le_refl _, by dsimp only; omega, hq⟩
    · exact ⟨by omega, by omega, h3⟩
  · rintro ⟨h1, h2, h3⟩
    by_cases he : x.2 = p
    · exact .inl ⟨x.1, by rw [← he]; exact h3, by rw [← he]⟩
    · exact .inr ⟨by omega, by omega, h3⟩
def ltP (x y : (Nat × Nat) × Nat) : Prop := x.2 < y.2 ∨ x.2 = y.2 ∧ x.1.1 < y.1.1
theorem pairsF_sorted : ∀ e p, (pairsF e p).Pairwise ltP
 | 0, _ => .nil
 | e + 1, p => by
  rw [pairsF, List.pairwise_append]
  refine ⟨List.pairwise_map.2 ((leansF_sorted p (p - 1) 1).imp (fun h => .inr ⟨rfl, h⟩)), pairsF_sorted e (p + 1), fun x hx y hy => .inl ?_⟩
  obtain ⟨q, _, rfl⟩ := List.mem_map.1 hx
  have := ((pairsF_mem e (p + 1) y).1 hy).1
  dsimp only
  omega
theorem pairsF_len : ∀ e p, p + e ≤ 201 → (pairsF e p).length ≤ e * 200
 | 0, _, _ => Nat.le_refl _
 | e + 1, p, h => by
  have h1 := pairsF_len e (p + 1) (by omega)
  have h2 := leansL_len p
  rw [pairsF, List.length_append, List.length_map]
  omega
def pairsL (m : Nat) : List ((Nat × Nat) × Nat) := pairsF m 1
theorem pairsL_len (m : Nat) (h : m ≤ 200) : (pairsL m).length ≤ 40000 := by
  have := pairsF_len m 1 (by omega)
  unfold pairsL
  omega
theorem upto_i' (m : Nat) (h1 : 1 ≤ m) (hm : m ≤ 200) : Ev (fun k => impl_LeansUpTo.f k (m : Int)) ((pairsL m).map rowOf, true) := by
  have := upto_i m h1 hm
  rw [allF_pairs] at this
  exact this
theorem primeQ_iff (q : Nat × Nat) (h : 1 ≤ q.1) : decide (1 < Nat.gcd q.1 q.2) = !primeQ q := by
  have : 0 < Nat.gcd q.1 q.2 := Nat.gcd_pos_of_pos_left _ h
  unfold primeQ
  by_cases h1 : Nat.gcd q.1 q.2 = 1
  · simp [h1]
  · simp [h1]; omega
theorem keep_ev : ∀ (L : List ((Nat × Nat) × Nat)), (∀ x ∈ L, 1 ≤ x.1.1) → Ev (fun k => keepP k (L.map rowOf)) ((L.filter fun x => primeQ x.1).map rowOf)
 | [], _ => evSome rfl
 | x :: L, h => by
  have h1 := keep_ev L (fun y hy => h y (List.mem_cons_of_mem _ hy))
  have h2 := lit_ev x.1 x.2
  rw [primeQ_iff x.1 (h x (List.mem_cons_self ..))] at h2
  refine Ev.bind h2 (Ev.bind h1 (evSome ?_))
  rw [List.filter_cons]
  cases primeQ x.1
  · rfl
  · rfl
theorem prime_i (m : Nat) (h1 : 1 ≤ m) (hm : m ≤ 200) : Ev (fun k => impl_PrimeLeans.f k (m : Int)) (((pairsL m).filter fun x => primeQ x.1).map rowOf, true) := by
  have hl := pairsL_len m hm
  unfold impl_PrimeLeans.f
  refine Ev.bind (upto_i' m h1 hm) (evPos (by rw [List.length_map]; omega) (Ev.bind (keep_ev _ (fun x hx => ?_)) (evSome rfl)))
  exact ((leansL_mem _ _).1 ((pairsF_mem _ _ x).1 hx).2.2).1
theorem prime_no (a : Int) (h : ¬ (1 ≤ a ∧ a ≤ 200)) : Ev (fun k => impl_PrimeLeans.f k a) ([], false) := by
  unfold impl_PrimeLeans.f
  exact Ev.bind (upto_no a h) (evPos (by decide) (Ev.bind (evSome (r' := []) (by rfl)) (evSome rfl)))
/-! The reference's list. -/
theorem cnAll_l2 (X : List Int) (most : Int) (pr : Bool) (acc : List (List Int)) (p : Int) (L : List (List Int)) (n j : Int) (r : List (List Int)) : ∀ (e a b : Nat), b ≤ e → Ev (fun k => spec_cnAll.l2 k most pr acc p X ((Nat.gcd a b : Nat) : Int) 0 L n j) r → Ev (fun k => spec_cnAll.l2 k most pr acc p X (a : Int) (b : Int) L n j) r := by
  intro e
  induction e with
  | zero =>
    intro a b hb h
    obtain rfl : b = 0 := by omega
    rw [Nat.gcd_zero_right] at h
    exact h
  | succ e ih =>
    intro a b hb h
    by_cases h0 : b = 0
    · subst h0
      rw [Nat.gcd_zero_right] at h
      exact h
    · refine Ev.step (fun k => by rw [spec_cnAll.l2]) ?_
      rw [tmod_nn]
      refine evPos (by omega) (evNeg (by omega) (ih b (a % b) (by have := Nat.mod_lt a (show 0 < b by omega); omega) ?_))
      rw [Nat.gcd_comm b (a % b), ← Nat.gcd_rec b a, Nat.gcd_comm]
      exact h
theorem cnAll_l1 (most p : Nat) (pr : Bool) (r : List (List Int)) (L : List (Nat × Nat)) (hL : L.length ≤ 1000) : ∀ (e j : Nat) (acc : List (List Int)), j + e = L.length → acc.length + e ≤ 1000000 →
    Ev (fun k => spec_cnAll.l0 k (most : Int) pr (acc ++ ((L.drop j).filter fun q => !pr || primeQ q).map fun q => row3 q p) (wrap64 ((p : Int) + 1))) r →
    Ev (fun k => spec_cnAll.l1 k (most : Int) pr acc (p : Int) (L.map fun q => [(q.1 : Int), (q.2 : Int)]) ((L.length : Nat) : Int) (j : Int)) r := by
  intro e
  induction e with
  | zero =>
    intro j acc hj ha h
    refine Ev.step (fun k => by rw [spec_cnAll.l1]) ?_
    rw [List.drop_of_length_le (by omega)] at h
    refine evNeg (by omega) (evEq (r := r) ?_ rfl)
    simpa using h
  | succ e ih =>
    intro j acc hj ha h
    have hjl : j < L.length := by omega
    refine Ev.step (fun k => by rw [spec_cnAll.l1]) ?_
    have hr : rd_L2 (L.map fun q => [(q.1 : Int), (q.2 : Int)]) (j : Int) = [((L.getD j (0, 0)).1 : Int), ((L.getD j (0, 0)).2 : Int)] := by
      unfold rd_L2
      rw [Int.toNat_natCast, getD_map' L _ j (0, 0) [] hjl]
    rw [getD_drop_cons L j (0, 0) hjl] at h
    rw [hr, List.length_map]
    generalize L.getD j (0, 0) = q at h ⊢
    have e1 : wrap64 ((j : Int) + 1) = ((j + 1 : Nat) : Int) := (w64 (by omega) (by omega)).trans (by omega)
    refine evPos (by omega) (evPos (by omega) (evPos (by omega) (evPos (by simp) (evPos (by simp) ?_))))
    refine cnAll_l2 _ _ _ _ _ _ _ _ _ q.2 q.1 q.2 (Nat.le_refl _) ?_
    refine Ev.step (fun k => by rw [spec_cnAll.l2]) ?_
    refine evNeg (by omega) ?_
    rw [e1]
    have go : Ev (fun k => spec_cnAll.l0 k (most : Int) pr ((acc ++ [[rd [(q.1 : Int), (q.2 : Int)] 0, rd [(q.1 : Int), (q.2 : Int)] 1, (p : Int)]]) ++ ((L.drop (j + 1)).filter fun q => !pr || primeQ q).map fun q => row3 q p) (wrap64 ((p : Int) + 1))) r → Ev (fun k => if 0 < (([(q.1 : Int), (q.2 : Int)] : List Int).length : Int) then (if 1 < (([(q.1 : Int), (q.2 : Int)] : List Int).length : Int) then (if acc.length < 5864062014805 then (spec_cnAll.l1 k (most : Int) pr (acc ++ [(([rd [(q.1 : Int), (q.2 : Int)] 0, rd [(q.1 : Int), (q.2 : Int)] 1, (p : Int)] : List Int))]) (p : Int) (L.map fun q => [(q.1 : Int), (q.2 : Int)]) ((L.length : Nat) : Int) ((j + 1 : Nat) : Int)) else (none)) else (none)) else (none)) r := fun h1 =>
      evPos (by simp) (evPos (by simp) (evPos (by omega) (ih (j + 1) _ (by omega) (by rw [List.length_append, List.length_cons, List.length_nil]; omega) h1)))
    cases pr with
    | true =>
      refine evPos rfl ?_
      by_cases hg : Nat.gcd q.1 q.2 = 1
      · refine evPos (by rw [hg]; rfl) (go ?_)
        rw [List.filter_cons, show (!true || primeQ q) = true by unfold primeQ; simp [hg]] at h
        rw [List.append_assoc]
        exact h
      · refine evNeg (by omega) (ih (j + 1) acc (by omega) (by omega) ?_)
        rw [List.filter_cons, show (!true || primeQ q) = false by unfold primeQ; simp [hg]] at h
        exact h
    | false =>
      refine evNeg (by decide) (go ?_)
      rw [List.filter_cons, show (!false || primeQ q) = true by simp] at h
      rw [List.append_assoc]
      exact h
theorem cnAll_l0 (most : Nat) (hm : most ≤ 200) (pr : Bool) : ∀ (e p : Nat) (acc : List (List Int)), p + e = most + 1 → 1 ≤ p → acc.length + e * 200 ≤ 900000 → Ev (fun k => spec_cnAll.l0 k (most : Int) pr acc (p : Int)) (acc ++ ((pairsF e p).filter fun x => !pr || primeQ x.1).map rowOf) := by
  intro e
  induction e with
  | zero =>
    intro p acc hp h1 ha
    refine Ev.step (fun k => by rw [spec_cnAll.l0]) ?_
    exact evNeg (by omega) (evSome (by simp [pairsF]))
  | succ e ih =>
    intro p acc hp h1 ha
    refine Ev.step (fun k => by rw [spec_cnAll.l0]) ?_
    have hl := leansL_len p
    refine evPos (by omega) (Ev.bind (cnLeans_ev p (by omega) h1) ?_)
    rw [List.length_map]
    refine cnAll_l1 most p pr _ (leansL p) (by omega) (leansL p).length 0 acc (by omega) (by omega) ?_
    rw [List.drop_zero, show wrap64 ((p : Int) + 1) = ((p + 1 : Nat) : Int) from (w64 (by omega) (by omega)).trans (by omega)]
    have hf := List.length_filter_le (fun q => !pr || primeQ q) (leansL p)
    refine evEq (ih (p + 1) _ (by omega) (by omega) (by rw [List.length_append, List.length_map]; omega)) ?_
    rw [pairsF, List.filter_append, List.map_append, List.append_assoc, List.filter_map, List.map_map]
    rfl
theorem upto_s (m : Nat) (h1 : 1 ≤ m) (hm : m ≤ 200) : Ev (fun k => spec_LeansUpTo.f k (m : Int)) ((pairsL m).map rowOf, true) := by
  unfold spec_LeansUpTo.f spec_cnAll.f
  refine evBind0 (plank_s m) (evPos (by unfold plankB; exact decide_eq_true (by omega)) (Ev.bind (cnAll_l0 m hm false m 1 [] (by omega) (by omega) (by simp; omega)) (evSome ?_)))
  rw [show ((pairsF m 1).filter fun x => !false || primeQ x.1) = pairsF m 1 from List.filter_eq_self.2 (fun _ _ => rfl)]
  rfl
theorem prime_s (m : Nat) (h1 : 1 ≤ m) (hm : m ≤ 200) : Ev (fun k => spec_PrimeLeans.f k (m : Int)) (((pairsL m).filter fun x => primeQ x.1).map rowOf, true) := by
  unfold spec_PrimeLeans.f spec_cnAll.f
  refine evBind0 (plank_s m) (evPos (by unfold plankB; exact decide_eq_true (by omega)) (Ev.bind (cnAll_l0 m hm true m 1 [] (by omega) (by omega) (by simp; omega)) (evSome ?_)))
  simp [pairsL]
theorem all_no (a : Int) (h : ¬ (1 ≤ a ∧ a ≤ 200)) : Ev (fun k => spec_LeansUpTo.f k a) ([], false) ∧ Ev (fun k => spec_PrimeLeans.f k a) ([], false) := by
  have hb : plankB a = false := decide_eq_false h
  refine ⟨?_, ?_⟩
  · unfold spec_LeansUpTo.f
    exact evBind0 (plank_s a) (evNeg (by rw [hb]; simp) (evSome rfl))
  · unfold spec_PrimeLeans.f
    exact evBind0 (plank_s a) (evNeg (by rw [hb]; simp) (evSome rfl))
end Go.Proofs.Ytkokbcnecnpgcaa.X
end
section
/- A list of rows is the same as itself, as the laws' comparison tells it. -/
--! needs LBase laws_kSame laws_kRows
namespace Go.Proofs.Ytkokbcnecnpgcaa.X
open Go.Proofs.Ytkokbcnecnpgcaa.Sq Go.RowKit Go.Proofs.YtkokbcnecnpgcaaW.PrintWords Go.Proofs.YtkokbcnecnpgcaaW.PrintLast Go.Proofs.YtkokbcnecnpgcaaW.PrintMore
attribute [local go_sem] max2_int min2_int max_two min_two max_three min_three max_four min_four   -- for this text's walks alone
set_option linter.unusedVariables false
set_option linter.unusedSimpArgs false
theorem kSame_self (l : List Int) (hl : l.length ≤ 1000000000) : Ev (fun k => laws_kSame.f k l l) true := by
  unfold laws_kSame.f
  refine evPos rfl ?_
  have key : ∀ e i : Nat, i + e = l.length → Ev (fun k => laws_kSame.l0 k l l ((l.length : Nat) : Int) (i : Int)) true := by
    intro e
    induction e with
    | zero =>
      intro i hi
      refine Ev.step (fun k => by rw [laws_kSame.l0]) ?_
      exact evNeg (by omega) (evSome rfl)
    | succ e ih =>
      intro i hi
      refine Ev.step (fun k => by rw [laws_kSame.l0]) ?_
      rw [show wrap64 ((i : Int) + 1) = ((i + 1 : Nat) : Int) from (w64 (by omega) (by omega)).trans (by omega)]
      exact evPos (by omega) (evPos (by omega) (evPos (by omega) (evPos (by omega) (evPos rfl (ih (i + 1) (by omega))))))
  exact key l.length 0 (by omega)
theorem kRows_self (L : List (List Int)) (hL : L.length ≤ 1000000000) (h : ∀ l ∈ L, l.length ≤ 1000000000) : Ev (fun k => laws_kRows.f k L L) true := by
  unfold laws_kRows.f
  refine evPos rfl ?_
  have key : ∀ e i : Nat, i + e = L.length → Ev (fun k => laws_kRows.l0 k L L ((L.length : Nat) : Int) (i : Int)) true := by
    intro e
    induction e with
    | zero =>
      intro i hi
      refine Ev.step (fun k => by rw [laws_kRows.l0]) ?_
      exact evNeg (by omega) (evSome rfl)
    | succ e ih =>
      intro i hi
      refine Ev.step (fun k => by rw [laws_kRows.l0]) ?_
      rw [show wrap64 ((i : Int) + 1) = ((i + 1 : Nat) : Int) from (w64 (by omega) (by omega)).trans (by omega)]
      have hm : (rd_L2 L (i : Int)).length ≤ 1000000000 := by
        unfold rd_L2
        rw [Int.toNat_natCast, ← getElem_getD L i [] (by omega)]
        exact h _ (List.getElem_mem _)
      exact evPos (by omega) (evPos (by omega) (evPos (by omega) (evPos (by omega) (Ev.bind (kSame_self _ hm) (evPos rfl (ih (i + 1) (by omega)))))))
  exact key L.length 0 (by omega)
end Go.Proofs.Ytkokbcnecnpgcaa.X
end
section
/- Heights, steps, square corners, turns. -/
--! needs LBase LPlank LPlankW LPlankU impl_StepOut spec_StepOut spec_cnHeight spec_LeanHeight impl_isDitch impl_CanSquare spec_CanSquare impl_LeastSquarePlank spec_LeastSquarePlank impl_GreatestSquare spec_GreatestSquare impl_CanTurn spec_CanTurn
namespace Go.Proofs.Ytkokbcnecnpgcaa.X
open Go.Proofs.Ytkokbcnecnpgcaa.Sq Go.RowKit Go.Proofs.YtkokbcnecnpgcaaW.PrintWords Go.Proofs.YtkokbcnecnpgcaaW.PrintLast Go.Proofs.YtkokbcnecnpgcaaW.PrintMore
attribute [local go_sem] max2_int min2_int max_two min_two max_three min_three max_four min_four   -- for this text's walks alone
set_option linter.unusedVariables false
set_option linter.unusedSimpArgs false
theorem l1In_f (a l h : Int) : spec_l1In.f a l h = some (decide (l ≤ a ∧ a ≤ h)) := by
  unfold spec_l1In.f
  by_cases c : l ≤ a
  · rw [if_pos c]; simp [c]
  · rw [if_neg (by omega)]; simp [c]
theorem cast_mul_w (a b : Nat) (h : a * b ≤ 9000000000000000) : wrap64 ((a : Int) * (b : Int)) = ((a * b : Nat) : Int) := by
  rw [← Int.natCast_mul]; exact w64 (by omega) (by omega)
theorem cast_sub_w (a b : Nat) (h : a ≤ 9000000000000000) (hb : b ≤ a) : wrap64 ((a : Int) - (b : Int)) = ((a - b : Nat) : Int) := by
  rw [w64 (by omega) (by omega)]; omega
theorem cast_add_w (a b : Nat) (h : a + b ≤ 9000000000000000) : wrap64 ((a : Int) + (b : Int)) = ((a + b : Nat) : Int) := by
  rw [w64 (by omega) (by omega)]; omega
def lft (p f : Nat) : Nat := p * p - f * f - hgt p f * hgt p f
theorem cnHeight_ev (p f : Nat) (hp : p ≤ 200) (hf : f ≤ p) : Ev (fun k => spec_cnHeight.f k (p : Int) (f : Int)) ((hgt p f : Int), (lft p f : Int)) := by
  have hpp : p * p ≤ 200 * 200 := sq_le hp
  have hff : f * f ≤ p * p := sq_le hf
  unfold spec_cnHeight.f
  rw [cast_mul_w p p (by omega), cast_mul_w f f (by omega), cast_sub_w _ _ (by omega) hff]
  generalize hn : p * p - f * f = n
  have h200 : rootN n ≤ 200 := rootN_small (by omega)
  have hgte : hgt p f = rootN n := by unfold hgt; rw [hn]
  have hb := (rootN_spec n).1
  have key : ∀ e i, i + e = rootN n → Ev (fun k => spec_cnHeight.l0 k (n : Int) (i : Int)) ((hgt p f : Int), (lft p f : Int)) := by
    intro e
    induction e with
    | zero =>
      intro i hi
      refine Ev.step (fun k => by rw [spec_cnHeight.l0]) ?_
      obtain rfl : i = rootN n := by omega
      have h1 := (rootN_spec n).2
      have h2 : (rootN n + 1) * (rootN n + 1) ≤ 201 * 201 := sq_le (by omega)
      rw [show wrap64 ((rootN n : Int) + 1) = ((rootN n + 1 : Nat) : Int) from (w64 (by omega) (by omega)).trans (by omega), cast_mul_w _ _ (by omega), cast_mul_w (rootN n) (rootN n) (by omega), cast_sub_w _ _ (by omega) hb]
      refine evNeg (by omega) (evSome ?_)
      unfold lft
      rw [hgte, hn]
    | succ e ih =>
      intro i hi
      refine Ev.step (fun k => by rw [spec_cnHeight.l0]) ?_
      have h2 : (i + 1) * (i + 1) ≤ rootN n * rootN n := sq_le (by omega)
      rw [show wrap64 ((i : Int) + 1) = ((i + 1 : Nat) : Int) from (w64 (by omega) (by omega)).trans (by omega), cast_mul_w _ _ (by omega)]
      exact evPos (by omega) (ih (i + 1) (by omega))
  exact key (rootN n) 0 (by omega)
theorem hgt_mono {p f g : Nat} (h : f ≤ g) : hgt p g ≤ hgt p f := rootN_mono (by have := sq_le h; omega)
theorem hgt_facts (p f : Nat) (hf : f ≤ p) : hgt p f * hgt p f + lft p f + f * f = p * p ∧ lft p f ≤ 2 * hgt p f ∧ hgt p f * hgt p f ≤ p * p := by
  have hff : f * f ≤ p * p := sq_le hf
  have h1 := rootN_spec (p * p - f * f)
  have h2 := sq_step (rootN (p * p - f * f))
  unfold lft hgt
  omega
theorem height_i' (p f : Nat) (h1 : 1 ≤ p) (hp : p ≤ 200) (hf : f ≤ p) : Ev (fun k => impl_LeanHeight.f k (p : Int) (f : Int)) ((hgt p f : Int), (lft p f : Int), true) := height_i p f h1 hp hf
theorem height_s (p f : Nat) (h1 : 1 ≤ p) (hp : p ≤ 200) (hf : f ≤ p) : Ev (fun k => spec_LeanHeight.f k (p : Int) (f : Int)) ((hgt p f : Int), (lft p f : Int), true) := by
  unfold spec_LeanHeight.f
  refine evBind0 (plank_s p) (evPos (by unfold plankB; exact decide_eq_true (by omega)) (evBind0 (l1In_f f 0 p) (evPos (decide_eq_true (by omega)) (Ev.bind (cnHeight_ev p f hp hf) (evSome rfl)))))
theorem height_s_no (a b : Int) (h : ¬ (1 ≤ a ∧ a ≤ 200 ∧ 0 ≤ b ∧ b ≤ a)) : Ev (fun k => spec_LeanHeight.f k a b) (0, 0, false) := by
  unfold spec_LeanHeight.f
  refine evBind0 (plank_s a) (evSplit (fun c => ?_) (fun _ => evSome rfl))
  unfold plankB at c
  have c1 := of_decide_eq_true c
  exact evBind0 (l1In_f b 0 a) (evNeg (by simp; omega) (evSome rfl))
/-- Both tell the same of a height. -/
theorem height_both (a b : Int) : ∃ h l o, Ev (fun k => impl_LeanHeight.f k a b) (h, l, o) ∧ Ev (fun k => spec_LeanHeight.f k a b) (h, l, o) ∧ (o = true → ∃ p f : Nat, a = p ∧ b = f ∧ p ≤ 200 ∧ f ≤ p ∧ h = (hgt p f : Int) ∧ l = (lft p f : Int)) := by
  by_cases c : 1 ≤ a ∧ a ≤ 200 ∧ 0 ≤ b ∧ b ≤ a
  · obtain ⟨p, rfl⟩ : ∃ p : Nat, a = p := ⟨a.toNat, by omega⟩
    obtain ⟨f, rfl⟩ : ∃ f : Nat, b = f := ⟨b.toNat, by omega⟩
    exact ⟨_, _, _, height_i' p f (by omega) (by omega) (by omega), height_s p f (by omega) (by omega) (by omega), fun _ => ⟨p, f, rfl, rfl, by omega, by omega, rfl, rfl⟩⟩
  · exact ⟨_, _, _, height_no a b c, height_s_no a b c, fun h => by cases h⟩
theorem step_both (a b d : Int) : ∃ h l o, Ev (fun k => impl_StepOut.f k a b d) (h, l, o) ∧ Ev (fun k => spec_StepOut.f k a b d) (h, l, o) ∧ (o = true → ∃ p f g : Nat, a = p ∧ b = f ∧ d = g ∧ 1 ≤ p ∧ p ≤ 200 ∧ f + g ≤ p ∧ h = (hgt p (f + g) : Int) ∧ l = (lft p (f + g) : Int)) := by
  unfold impl_StepOut.f spec_StepOut.f
  by_cases c1 : 1 ≤ a ∧ a ≤ 200
  rotate_left
  · have hb : plankB a = false := decide_eq_false c1
    exact ⟨_, _, _, evBind0 (plank_i a) (evNeg (by rw [hb]; simp) (evSome rfl)), evBind0 (plank_s a) (evNeg (by rw [hb]; simp) (evSome rfl)), fun h => by cases h⟩
  have hb : plankB a = true := decide_eq_true c1
  by_cases c2 : 0 ≤ b ∧ b ≤ a
  rotate_left
  · exact ⟨_, _, _, evBind0 (plank_i a) (evPos hb (evBind0 (within_f b 0 a) (evNeg (by simpa using c2) (evSome rfl)))), evBind0 (plank_s a) (evPos hb (evBind0 (l1In_f b 0 a) (evNeg (by simpa using c2) (evSome rfl)))), fun h => by cases h⟩
  by_cases c3 : 0 ≤ d ∧ d ≤ 200
  rotate_left
  · exact ⟨_, _, _, evBind0 (plank_i a) (evPos hb (evBind0 (within_f b 0 a) (evPos (decide_eq_true c2) (evBind0 (within_f d 0 200) (evNeg (by simpa using c3) (evSome rfl)))))), evBind0 (plank_s a) (evPos hb (evBind0 (l1In_f b 0 a) (evPos (decide_eq_true c2) (evBind0 (l1In_f d 0 200) (evNeg (by simpa using c3) (evSome rfl)))))), fun h => by cases h⟩
  obtain ⟨p, rfl⟩ : ∃ p : Nat, a = p := ⟨a.toNat, by omega⟩
  obtain ⟨f, rfl⟩ : ∃ f : Nat, b = f := ⟨b.toNat, by omega⟩
  obtain ⟨g, rfl⟩ : ∃ g : Nat, d = g := ⟨d.toNat, by omega⟩
  rw [cast_add_w f g (by omega)]
  by_cases c4 : f + g ≤ p
  · exact ⟨_, _, _, evBind0 (plank_i p) (evPos hb (evBind0 (within_f f 0 p) (evPos (decide_eq_true c2) (evBind0 (within_f g 0 200) (evPos (decide_eq_true c3) (Ev.bind (height_i' p (f + g) (by omega) (by omega) c4) (evSome rfl))))))), evBind0 (plank_s p) (evPos hb (evBind0 (l1In_f f 0 p) (evPos (decide_eq_true c2) (evBind0 (l1In_f g 0 200) (evPos (decide_eq_true c3) (evNeg (by omega) (Ev.bind (cnHeight_ev p (f + g) (by omega) c4) (evSome rfl)))))))), fun _ => ⟨p, f, g, rfl, rfl, rfl, by omega, by omega, c4, rfl, rfl⟩⟩
  · exact ⟨_, _, _, evBind0 (plank_i p) (evPos hb (evBind0 (within_f f 0 p) (evPos (decide_eq_true c2) (evBind0 (within_f g 0 200) (evPos (decide_eq_true c3) (Ev.bind (height_no p ((f + g : Nat) : Int) (by omega)) (evSome rfl))))))), evBind0 (plank_s p) (evPos hb (evBind0 (l1In_f f 0 p) (evPos (decide_eq_true c2) (evBind0 (l1In_f g 0 200) (evPos (decide_eq_true c3) (evPos (by omega) (evSome rfl))))))), fun h => by cases h⟩
/-! Square corners. -/
def ditchB (a : Int) : Bool := decide (1 ≤ a ∧ a ≤ 100)
theorem ditch_i (a : Int) : impl_isDitch.f a = some (ditchB a) := by
  unfold impl_isDitch.f ditchB
  rw [within_f]
  rfl
theorem ditch_s (a : Int) : spec_cnDitch.f a = some (ditchB a) := by
  unfold spec_cnDitch.f ditchB
  rw [l1In_f]
  rfl
def sqN (w l : Nat) : Bool := decide (8 * w * w ≤ 9 * l * l)
theorem nine (l : Nat) (h : l ≤ 300) : wrap64 ((wrap64 (9 * (l : Int))) * (l : Int)) = ((9 * l * l : Nat) : Int) := by
  rw [show wrap64 (9 * (l : Int)) = ((9 * l : Nat) : Int) from (w64 (by omega) (by omega)).trans (by omega)]
  exact cast_mul_w (9 * l) l (by have := Nat.mul_le_mul (show 9 * l ≤ 2700 by omega) h; omega)
theorem eight (l : Nat) (h : l ≤ 300) : wrap64 ((wrap64 (8 * (l : Int))) * (l : Int)) = ((8 * l * l : Nat) : Int) := by
  rw [show wrap64 (8 * (l : Int)) = ((8 * l : Nat) : Int) from (w64 (by omega) (by omega)).trans (by omega)]
  exact cast_mul_w (8 * l) l (by have := Nat.mul_le_mul (show 8 * l ≤ 2400 by omega) h; omega)
theorem reach_f (w l : Nat) (hw : w ≤ 300) (hl : l ≤ 300) : impl_reachesSquare.f (w : Int) (l : Int) = some (sqN w l) := by
  unfold impl_reachesSquare.f sqN
  rw [nine l hl, eight w hw]
  congr 1
  simp only [decide_eq_decide]
  omega
theorem canSq (w l : Nat) (h1 : 1 ≤ w) (h2 : w ≤ 100) (h3 : 1 ≤ l) (h4 : l ≤ 200) : impl_CanSquare.f (w : Int) (l : Int) = some (sqN w l, true) := by
  unfold impl_CanSquare.f
  rw [ditch_i, show ditchB (w : Int) = true from decide_eq_true (by omega), plank_i, show plankB (l : Int) = true from decide_eq_true (by omega), reach_f w l (by omega) (by omega)]
  rfl
theorem canSq_s (w l : Nat) (h1 : 1 ≤ w) (h2 : w ≤ 100) (h3 : 1 ≤ l) (h4 : l ≤ 200) : spec_CanSquare.f (w : Int) (l : Int) = some (sqN w l, true) := by
  unfold spec_CanSquare.f
  rw [ditch_s, show ditchB (w : Int) = true from decide_eq_true (by omega), plank_s, show plankB (l : Int) = true from decide_eq_true (by omega), nine l (by omega), eight w (by omega)]
  have e : decide (((9 * l * l : Nat) : Int) ≥ ((8 * w * w : Nat) : Int)) = sqN w l := by
    unfold sqN
    simp only [decide_eq_decide]
    omega
  rw [← e]
  rfl
theorem canSq_both (a b : Int) : ∃ c o, impl_CanSquare.f a b = some (c, o) ∧ spec_CanSquare.f a b = some (c, o) ∧ (o = true → ∃ w l : Nat, a = w ∧ b = l ∧ 1 ≤ w ∧ w ≤ 100 ∧ 1 ≤ l ∧ l ≤ 200 ∧ c = sqN w l) := by
  by_cases c1 : 1 ≤ a ∧ a ≤ 100
  rotate_left
  · have hb : ditchB a = false := decide_eq_false c1
    refine ⟨false, false, ?_, ?_, fun h => by cases h⟩
    · unfold impl_CanSquare.f; rw [ditch_i, hb]; rfl
    · unfold spec_CanSquare.f; rw [ditch_s, hb]; rfl
  by_cases c2 : 1 ≤ b ∧ b ≤ 200
  rotate_left
  · have hb : plankB b = false := decide_eq_false c2
    have ha : ditchB a = true := decide_eq_true c1
    refine ⟨false, false, ?_, ?_, fun h => by cases h⟩
    · unfold impl_CanSquare.f; rw [ditch_i, ha, plank_i, hb]; rfl
    · unfold spec_CanSquare.f; rw [ditch_s, ha, plank_s, hb]; rfl
  obtain ⟨w, rfl⟩ : ∃ w : Nat, a = w := ⟨a.toNat, by omega⟩
  obtain ⟨l, rfl⟩ : ∃ l : Nat, b = l := ⟨b.toNat, by omega⟩
  exact ⟨_, _, canSq w l (by omega) (by omega) (by omega) (by omega), canSq_s w l (by omega) (by omega) (by omega) (by omega), fun _ => ⟨w, l, rfl, rfl, by omega, by omega, by omega, by omega, rfl⟩⟩
theorem sqN_mono {w w' l l' : Nat} (h : sqN w l = true) (hw : w' ≤ w) (hl : l ≤ l') : sqN w' l' = true := by
  unfold sqN at h ⊢
  have h1 := of_decide_eq_true h
  have h2 : 8 * w' * w' ≤ 8 * w * w := Nat.mul_le_mul (by omega) hw
  have h3 : 9 * l * l ≤ 9 * l' * l' := Nat.mul_le_mul (by omega) hl
  exact decide_eq_true (by omega)
/-- The least plank for a square corner. -/
def leastF (w : Nat) : Nat → Nat → Nat
 | 0, l => l
 | e + 1, l => if sqN w l = true then l else leastF w e (l + 1)
theorem leastF_spec (w : Nat) : ∀ e l, sqN w (l + e) = true → (∀ m, m < l → 1 ≤ m → sqN w m = false) → sqN w (leastF w e l) = true ∧ l ≤ leastF w e l ∧ leastF w e l ≤ l + e ∧ ∀ m, m < leastF w e l → 1 ≤ m → sqN w m = false
 | 0, l, h, hm => ⟨h, Nat.le_refl _, Nat.le_refl _, hm⟩
 | e + 1, l, h, hm => by
  rw [leastF]
  by_cases c : sqN w l = true
  · rw [if_pos c]
    exact ⟨c, Nat.le_refl _, by omega, hm⟩
  · rw [if_neg c]
    obtain ⟨h1, h2, h3, h4⟩ := leastF_spec w e (l + 1) (by rw [show l + 1 + e = l + (e + 1) by omega]; exact h) (fun m h1 h2 => by
      by_cases hl : m = l
      · rw [hl]; simpa using c
      · exact hm m (by omega) h2)
    exact ⟨h1, by omega, by omega, h4⟩
theorem least_i (w : Nat) (hw : w ≤ 100) : ∀ e l, l + e = w → Ev (fun k => impl_LeastSquarePlank.l0 k (w : Int) (l : Int)) ((leastF w e l : Int), true)
 | 0, l, h => by
  refine Ev.step (fun k => by rw [impl_LeastSquarePlank.l0]) (evBind0 (reach_f w l (by omega) (by omega)) (evPos ?_ (evSome rfl)))
  obtain rfl : l = w := by omega
  exact decide_eq_true (by have := Nat.mul_le_mul (show 8 * l ≤ 9 * l by omega) (Nat.le_refl l); omega)
 | e + 1, l, h => by
  refine Ev.step (fun k => by rw [impl_LeastSquarePlank.l0]) (evBind0 (reach_f w l (by omega) (by omega)) ?_)
  rw [leastF, show wrap64 ((l : Int) + 1) = ((l + 1 : Nat) : Int) from (w64 (by omega) (by omega)).trans (by omega)]
  refine evSplit (fun c => ?_) (fun c => ?_)
  · rw [if_pos c]; exact evSome rfl
  · rw [if_neg c]; exact least_i w hw e (l + 1) (by omega)
theorem least_s (w : Nat) (hw : w ≤ 100) : ∀ e l, l + e = w → Ev (fun k => spec_LeastSquarePlank.l0 k (w : Int) (l : Int)) ((leastF w e l : Int), true)
 | 0, l, h => by
  refine Ev.step (fun k => by rw [spec_LeastSquarePlank.l0]) ?_
  obtain rfl : l = w := by omega
  rw [nine l (by omega), eight l (by omega)]
  exact evNeg (by have := Nat.mul_le_mul (show 8 * l ≤ 9 * l by omega) (Nat.le_refl l); omega) (evSome rfl)
 | e + 1, l, h => by
  refine Ev.step (fun k => by rw [spec_LeastSquarePlank.l0]) ?_
  rw [nine l (by omega), eight w (by omega), leastF, show wrap64 ((l : Int) + 1) = ((l + 1 : Nat) : Int) from (w64 (by omega) (by omega)).trans (by omega)]
  refine evSplit (fun c => ?_) (fun c => ?_)
  · rw [if_neg (by unfold sqN; simp; omega)]; exact least_s w hw e (l + 1) (by omega)
  · rw [if_pos (by unfold sqN; exact decide_eq_true (by omega))]; exact evSome rfl
theorem least_both (a : Int) : ∃ v o, Ev (fun k => impl_LeastSquarePlank.f k a) (v, o) ∧ Ev (fun k => spec_LeastSquarePlank.f k a) (v, o) ∧ (o = true → ∃ w l : Nat, a = w ∧ v = l ∧ 1 ≤ w ∧ w ≤ 100 ∧ 1 ≤ l ∧ l ≤ 100 ∧ sqN w l = true ∧ ∀ m, m < l → 1 ≤ m → sqN w m = false) := by
  unfold impl_LeastSquarePlank.f spec_LeastSquarePlank.f
  by_cases c1 : 1 ≤ a ∧ a ≤ 100
  rotate_left
  · have hb : ditchB a = false := decide_eq_false c1
    exact ⟨_, _, evBind0 (ditch_i a) (evNeg (by rw [hb]; simp) (evSome rfl)), evBind0 (ditch_s a) (evNeg (by rw [hb]; simp) (evSome rfl)), fun h => by cases h⟩
  have hb : ditchB a = true := decide_eq_true c1
  obtain ⟨w, rfl⟩ : ∃ w : Nat, a = w := ⟨a.toNat, by omega⟩
  have hs := leastF_spec w (w - 1) 1 (by rw [show 1 + (w - 1) = w by omega]; exact decide_eq_true (by have := Nat.mul_le_mul (show 8 * w ≤ 9 * w by omega) (Nat.le_refl w); omega)) (fun m h1 h2 => by omega)
  exact ⟨_, _, evBind0 (ditch_i w) (evPos hb (least_i w (by omega) (w - 1) 1 (by omega))), evBind0 (ditch_s w) (evPos hb (least_s w (by omega) (w - 1) 1 (by omega))), fun _ => ⟨w, _, rfl, rfl, by omega, by omega, hs.2.1, by omega, hs.1, hs.2.2.2⟩⟩
/-- The greatest ditch for a plank. -/
def greatF (l : Nat) : Nat → Nat → Nat
 | 0, w => w
 | e + 1, w => if sqN (w + 1) l = true then greatF l e (w + 1) else w
theorem greatF_spec (l : Nat) : ∀ e w, sqN w l = true → sqN (w + e + 1) l = false → sqN (greatF l e w) l = true ∧ sqN (greatF l e w + 1) l = false ∧ w ≤ greatF l e w ∧ greatF l e w ≤ w + e
 | 0, w, h, h2 => ⟨h, h2, Nat.le_refl _, Nat.le_refl _⟩
 | e + 1, w, h, h2 => by
  rw [greatF]
  by_cases c : sqN (w + 1) l = true
  · rw [if_pos c]
    obtain ⟨h3, h4, h5, h6⟩ := greatF_spec l e (w + 1) c (by rw [show w + 1 + e + 1 = w + (e + 1) + 1 by omega]; exact h2)
    exact ⟨h3, h4, by omega, by omega⟩
  · rw [if_neg c]
    exact ⟨h, by simpa using c, Nat.le_refl _, by omega⟩
theorem great_il (l : Nat) (h1 : 1 ≤ l) (hl : l ≤ 200) : ∀ e w : Nat, w + e = 250 → sqN 251 l = false → Ev (fun k => impl_GreatestSquare.l0 k (l : Int) (w : Int)) ((greatF l e w : Int), true)
 | 0, w, h, hf => by
  refine Ev.step (fun k => by rw [impl_GreatestSquare.l0]) ?_
  rw [show wrap64 ((w : Int) + 1) = ((w + 1 : Nat) : Int) from (w64 (by omega) (by omega)).trans (by omega)]
  refine evBind0 (reach_f (w + 1) l (by omega) (by omega)) (evNeg ?_ (evSome rfl))
  rw [show w + 1 = 251 by omega, hf]
  simp
 | e + 1, w, h, hf => by
  refine Ev.step (fun k => by rw [impl_GreatestSquare.l0]) ?_
  rw [show wrap64 ((w : Int) + 1) = ((w + 1 : Nat) : Int) from (w64 (by omega) (by omega)).trans (by omega), greatF]
  refine evBind0 (reach_f (w + 1) l (by omega) (by omega)) (evSplit (fun c => ?_) (fun c => ?_))
  · rw [if_pos c]; exact great_il l h1 hl e (w + 1) (by omega) hf
  · rw [if_neg c]; exact evSome rfl
theorem great_sl (l : Nat) (h1 : 1 ≤ l) (hl : l ≤ 200) : ∀ e w : Nat, w + e = 250 → sqN 251 l = false → Ev (fun k => spec_GreatestSquare.l0 k (l : Int) (w : Int)) ((greatF l e w : Int), true)
 | 0, w, h, hf => by
  refine Ev.step (fun k => by rw [spec_GreatestSquare.l0]) ?_
  rw [show wrap64 ((w : Int) + 1) = ((w + 1 : Nat) : Int) from (w64 (by omega) (by omega)).trans (by omega), eight (w + 1) (by omega), nine l (by omega)]
  refine evNeg ?_ (evSome rfl)
  have h3 := of_decide_eq_false hf
  rw [show w + 1 = 251 by omega]
  omega
 | e + 1, w, h, hf => by
  refine Ev.step (fun k => by rw [spec_GreatestSquare.l0]) ?_
  rw [show wrap64 ((w : Int) + 1) = ((w + 1 : Nat) : Int) from (w64 (by omega) (by omega)).trans (by omega), eight (w + 1) (by omega), nine l (by omega), greatF]
  refine evSplit (fun c => ?_) (fun c => ?_)
  · rw [if_pos (by unfold sqN; exact decide_eq_true (by omega))]; exact great_sl l h1 hl e (w + 1) (by omega) hf
  · rw [if_neg (by unfold sqN; simp; omega)]; exact evSome rfl
theorem great_both (a : Int) : ∃ v o, Ev (fun k => impl_GreatestSquare.f k a) (v, o) ∧ Ev (fun k => spec_GreatestSquare.f k a) (v, o) ∧ (o = true → ∃ l w : Nat, a = l ∧ v = w ∧ 1 ≤ l ∧ l ≤ 200 ∧ 1 ≤ w ∧ w ≤ 250 ∧ sqN w l = true ∧ sqN (w + 1) l = false) := by
  unfold impl_GreatestSquare.f spec_GreatestSquare.f
  by_cases c1 : 1 ≤ a ∧ a ≤ 200
  rotate_left
  · have hb : plankB a = false := decide_eq_false c1
    exact ⟨_, _, evBind0 (plank_i a) (evNeg (by rw [hb]; simp) (evSome rfl)), evBind0 (plank_s a) (evNeg (by rw [hb]; simp) (evSome rfl)), fun h => by cases h⟩
  have hb : plankB a = true := decide_eq_true c1
  obtain ⟨l, rfl⟩ : ∃ l : Nat, a = l := ⟨a.toNat, by omega⟩
  have hfar : sqN 251 l = false := by
    unfold sqN
    refine decide_eq_false ?_
    have h3 : 9 * l * l ≤ 9 * 200 * 200 := Nat.mul_le_mul (by omega) (by omega)
    omega
  have h11 : sqN 1 l = true := decide_eq_true (by
    have h3 : 9 * 1 * 1 ≤ 9 * l * l := Nat.mul_le_mul (by omega) (by omega)
    omega)
  have hs := greatF_spec l 249 1 h11 hfar
  have e0 : greatF l 250 0 = greatF l 249 1 := by
    rw [greatF, if_pos h11]
  have hi := great_il l (by omega) (by omega) 250 0 rfl hfar
  rw [e0] at hi
  exact ⟨_, _, evBind0 (plank_i l) (evPos hb hi), evBind0 (plank_s l) (evPos hb (great_sl l (by omega) (by omega) 249 1 rfl hfar)), fun _ => ⟨l, _, rfl, rfl, by omega, by omega, hs.2.2.1, by omega, hs.1, hs.2.1⟩⟩
end Go.Proofs.Ytkokbcnecnpgcaa.X
end
section
/- Turns around a corner. -/
--! needs LBase LPlank LPlankW LPlankQ impl_CanTurn spec_CanTurn
namespace Go.Proofs.Ytkokbcnecnpgcaa.X
open Go.Proofs.Ytkokbcnecnpgcaa.Sq Go.RowKit Go.Proofs.YtkokbcnecnpgcaaW.PrintWords Go.Proofs.YtkokbcnecnpgcaaW.PrintLast Go.Proofs.YtkokbcnecnpgcaaW.PrintMore
attribute [local go_sem] max2_int min2_int max_two min_two max_three min_three max_four min_four   -- for this text's walks alone
set_option linter.unusedVariables false
set_option linter.unusedSimpArgs false
/-- At a, the plank of length w does not go through: u, v the corridors. -/
def stuckN (u v w a : Nat) : Bool := decide (v * v * a * a < (w * w - a * a) * (a - u) * (a - u))
def turnF (u v w : Nat) : Nat → Nat → Bool
 | 0, _ => true
 | e + 1, a => if stuckN u v w a = true then false else turnF u v w e (a + 1)
theorem mul3_le {a b c A B C : Nat} (h1 : a ≤ A) (h2 : b ≤ B) (h3 : c ≤ C) : a * b * c ≤ A * B * C := Nat.mul_le_mul (Nat.mul_le_mul h1 h2) h3
theorem stuck_test (u v w a : Nat) (hu : u ≤ 100) (hv : v ≤ 100) (hw : w ≤ 200) (ha : u ≤ a) (haw : a ≤ w) :
    ((wrap64 ((wrap64 ((wrap64 ((wrap64 ((w : Int) * (w : Int))) - (wrap64 ((a : Int) * (a : Int))))) * (wrap64 ((a : Int) - (u : Int))))) * (wrap64 ((a : Int) - (u : Int))))) > (wrap64 ((wrap64 ((wrap64 ((v : Int) * (v : Int))) * (a : Int))) * (a : Int)))) ↔ stuckN u v w a = true := by
  have hww : w * w ≤ 200 * 200 := sq_le hw
  have haa : a * a ≤ w * w := sq_le haw
  have hvv : v * v ≤ 100 * 100 := sq_le hv
  have h1 : (w * w - a * a) * (a - u) ≤ 40000 * 200 := Nat.mul_le_mul (by omega) (by omega)
  have h2 : (w * w - a * a) * (a - u) * (a - u) ≤ 40000 * 200 * 200 := mul3_le (by omega) (by omega) (by omega)
  have h3 : v * v * a ≤ 10000 * 200 := Nat.mul_le_mul (by omega) (by omega)
  have h4 : v * v * a * a ≤ 10000 * 200 * 200 := mul3_le (by omega) (by omega) (by omega)
  rw [cast_mul_w w w (by omega), cast_mul_w a a (by omega), cast_sub_w _ _ (by omega) haa, cast_sub_w a u (by omega) ha, cast_mul_w _ _ (by omega), cast_mul_w _ _ (by omega), cast_mul_w v v (by omega), cast_mul_w _ _ (by omega), cast_mul_w _ _ (by omega)]
  unfold stuckN
  rw [decide_eq_true_eq]
  omega
theorem turn_il (u v w : Nat) (hu : u ≤ 100) (hv : v ≤ 100) (hw : w ≤ 200) : ∀ e a, u < a → (a + e = w ∨ e = 0 ∧ w ≤ a) → a ≤ 300 → Ev (fun k => impl_CanTurn.l0 k (u : Int) (v : Int) (w : Int) (a : Int)) (turnF u v w e a, true)
 | 0, a, h, he, hm => by
  refine Ev.step (fun k => by rw [impl_CanTurn.l0]) ?_
  exact evNeg (by omega) (evSome rfl)
 | e + 1, a, h, he, hm => by
  refine Ev.step (fun k => by rw [impl_CanTurn.l0]) ?_
  have ht := stuck_test u v w a hu hv hw (by omega) (by omega)
  rw [turnF, show wrap64 ((a : Int) + 1) = ((a + 1 : Nat) : Int) from (w64 (by omega) (by omega)).trans (by omega)]
  refine evPos (by omega) (evSplit (fun c => ?_) (fun c => ?_))
  · rw [if_pos (ht.1 c)]; exact evSome rfl
  · rw [if_neg (fun h2 => c (ht.2 h2))]; exact turn_il u v w hu hv hw e (a + 1) (by omega) (by omega) (by omega)
theorem turn_sl (u v w : Nat) (hu : u ≤ 100) (hv : v ≤ 100) (hw : w ≤ 200) : ∀ e a, u < a → (a + e = w ∨ e = 0 ∧ w ≤ a) → a ≤ 300 → Ev (fun k => spec_CanTurn.l0 k (u : Int) (v : Int) (w : Int) (a : Int)) (turnF u v w e a, true)
 | 0, a, h, he, hm => by
  refine Ev.step (fun k => by rw [spec_CanTurn.l0]) ?_
  exact evNeg (by omega) (evSome rfl)
 | e + 1, a, h, he, hm => by
  refine Ev.step (fun k => by rw [spec_CanTurn.l0]) ?_
  have ht := stuck_test u v w a hu hv hw (by omega) (by omega)
  rw [turnF, show wrap64 ((a : Int) + 1) = ((a + 1 : Nat) : Int) from (w64 (by omega) (by omega)).trans (by omega)]
  refine evPos (by omega) (evSplit (fun c => ?_) (fun c => ?_))
  · rw [if_pos (ht.1 c)]; exact evSome rfl
  · rw [if_neg (fun h2 => c (ht.2 h2))]; exact turn_sl u v w hu hv hw e (a + 1) (by omega) (by omega) (by omega)
def turnB (u v w : Nat) : Bool := turnF u v w (w - (u + 1)) (u + 1)
theorem turn_i (u v w : Nat) (h1 : 1 ≤ u) (hu : u ≤ 100) (h2 : 1 ≤ v) (hv : v ≤ 100) (h3 : 1 ≤ w) (hw : w ≤ 200) : Ev (fun k => impl_CanTurn.f k (u : Int) (v : Int) (w : Int)) (turnB u v w, true) := by
  unfold impl_CanTurn.f
  refine evBind0 (ditch_i u) (evPos (decide_eq_true (by omega)) (evBind0 (ditch_i v) (evPos (decide_eq_true (by omega)) (evBind0 (plank_i w) ?_))))
  rw [show plankB (w : Int) = true from decide_eq_true (by omega)]
  refine Ev.step (fun k => by rw [impl_CanTurn.j0]) (evNeg (by simp) ?_)
  rw [show wrap64 ((u : Int) + 1) = ((u + 1 : Nat) : Int) from (w64 (by omega) (by omega)).trans (by omega)]
  exact turn_il u v w hu hv hw _ _ (by omega) (by omega) (by omega)
theorem turn_s (u v w : Nat) (h1 : 1 ≤ u) (hu : u ≤ 100) (h2 : 1 ≤ v) (hv : v ≤ 100) (h3 : 1 ≤ w) (hw : w ≤ 200) : Ev (fun k => spec_CanTurn.f k (u : Int) (v : Int) (w : Int)) (turnB u v w, true) := by
  unfold spec_CanTurn.f
  refine evBind0 (ditch_s u) (evPos (decide_eq_true (by omega)) (evBind0 (ditch_s v) (evPos (decide_eq_true (by omega)) (evBind0 (plank_s w) ?_))))
  rw [show plankB (w : Int) = true from decide_eq_true (by omega)]
  refine Ev.step (fun k => by rw [spec_CanTurn.j0]) (evNeg (by simp) ?_)
  rw [show wrap64 ((u : Int) + 1) = ((u + 1 : Nat) : Int) from (w64 (by omega) (by omega)).trans (by omega)]
  exact turn_sl u v w hu hv hw _ _ (by omega) (by omega) (by omega)
theorem turn_both (a b c : Int) : ∃ t o, Ev (fun k => impl_CanTurn.f k a b c) (t, o) ∧ Ev (fun k => spec_CanTurn.f k a b c) (t, o) ∧ (o = true → ∃ u v w : Nat, a = u ∧ b = v ∧ c = w ∧ 1 ≤ u ∧ u ≤ 100 ∧ 1 ≤ v ∧ v ≤ 100 ∧ 1 ≤ w ∧ w ≤ 200 ∧ t = turnB u v w) := by
  by_cases c1 : 1 ≤ a ∧ a ≤ 100
  rotate_left
  · have hb : ditchB a = false := decide_eq_false c1
    refine ⟨false, false, ?_, ?_, fun h => by cases h⟩
    · unfold impl_CanTurn.f
      exact evBind0 (ditch_i a) (evNeg (by rw [hb]; simp) (Ev.step (fun k => by rw [impl_CanTurn.j0]) (evPos rfl (evSome rfl))))
    · unfold spec_CanTurn.f
      exact evBind0 (ditch_s a) (evNeg (by rw [hb]; simp) (Ev.step (fun k => by rw [spec_CanTurn.j0]) (evPos rfl (evSome rfl))))
  have ha : ditchB a = true := decide_eq_true c1
  by_cases c2 : 1 ≤ b ∧ b ≤ 100
  rotate_left
  · have hb : ditchB b = false := decide_eq_false c2
    refine ⟨false, false, ?_, ?_, fun h => by cases h⟩
    · unfold impl_CanTurn.f
      exact evBind0 (ditch_i a) (evPos ha (evBind0 (ditch_i b) (evNeg (by rw [hb]; simp) (Ev.step (fun k => by rw [impl_CanTurn.j0]) (evPos rfl (evSome rfl))))))
    · unfold spec_CanTurn.f
      exact evBind0 (ditch_s a) (evPos ha (evBind0 (ditch_s b) (evNeg (by rw [hb]; simp) (Ev.step (fun k => by rw [spec_CanTurn.j0]) (evPos rfl (evSome rfl))))))
  have hb : ditchB b = true := decide_eq_true c2
  by_cases c3 : 1 ≤ c ∧ c ≤ 200
  rotate_left
  · have hc : plankB c = false := decide_eq_false c3
    refine ⟨false, false, ?_, ?_, fun h => by cases h⟩
    · unfold impl_CanTurn.f
      refine evBind0 (ditch_i a) (evPos ha (evBind0 (ditch_i b) (evPos hb (evBind0 (plank_i c) ?_))))
      rw [hc]
      refine Ev.step (fun k => by rw [impl_CanTurn.j0]) ?_
      exact evPos rfl (evSome rfl)
    · unfold spec_CanTurn.f
      refine evBind0 (ditch_s a) (evPos ha (evBind0 (ditch_s b) (evPos hb (evBind0 (plank_s c) ?_))))
      rw [hc]
      refine Ev.step (fun k => by rw [spec_CanTurn.j0]) ?_
      exact evPos rfl (evSome rfl)
  obtain ⟨u, rfl⟩ : ∃ u : Nat, a = u := ⟨a.toNat, by omega⟩
  obtain ⟨v, rfl⟩ : ∃ v : Nat, b = v := ⟨b.toNat, by omega⟩
  obtain ⟨w, rfl⟩ : ∃ w : Nat, c = w := ⟨c.toNat, by omega⟩
  exact ⟨_, _, turn_i u v w (by omega) (by omega) (by omega) (by omega) (by omega) (by omega), turn_s u v w (by omega) (by omega) (by omega) (by omega) (by omega) (by omega), fun _ => ⟨u, v, w, rfl, rfl, rfl, by omega, by omega, by omega, by omega, by omega, by omega, rfl⟩⟩
theorem turnF_true (u v w : Nat) : ∀ e a, turnF u v w e a = true ↔ ∀ x, a ≤ x → x < a + e → stuckN u v w x = false
 | 0, a => by simp [turnF]; omega
 | e + 1, a => by
  rw [turnF]
  by_cases c : stuckN u v w a = true
  · rw [if_pos c]
    constructor
    · intro h; cases h
    · intro h; have := h a (Nat.le_refl _) (by omega); rw [c] at this; cases this
  · rw [if_neg c, turnF_true u v w e (a + 1)]
    constructor
    · intro h x h1 h2
      by_cases hx : x = a
      · rw [hx]; simpa using c
      · exact h x (by omega) (by omega)
    · intro h x h1 h2
      exact h x (by omega) (by omega)
theorem turnB_less {u v w : Nat} (h : turnB u v w = true) : turnB u v (w - 1) = true := by
  unfold turnB at h ⊢
  rw [turnF_true] at h ⊢
  intro x h1 h2
  have h3 := h x h1 (by omega)
  unfold stuckN at h3 ⊢
  have h4 := of_decide_eq_false h3
  refine decide_eq_false ?_
  have h5 : (w - 1) * (w - 1) ≤ w * w := sq_le (by omega)
  have h6 : ((w - 1) * (w - 1) - x * x) * (x - u) * (x - u) ≤ (w * w - x * x) * (x - u) * (x - u) := mul3_le (by omega) (Nat.le_refl _) (Nat.le_refl _)
  omega
theorem turnB_wide {u v w : Nat} (h : w ≤ u) : turnB u v w = true := by
  unfold turnB
  rw [turnF_true]
  intro x h1 h2
  omega
theorem turnB_deep {u v w : Nat} (h : w ≤ v) : turnB u v w = true := by
  unfold turnB
  rw [turnF_true]
  intro x h1 h2
  unfold stuckN
  refine decide_eq_false ?_
  have h5 : w * w ≤ v * v := sq_le h
  have h6 : (w * w - x * x) * (x - u) * (x - u) ≤ v * v * x * x := mul3_le (by omega) (by omega) (by omega)
  omega
end Go.Proofs.Ytkokbcnecnpgcaa.X
end
section
/- The law over planks, from its end to its beginning: the checks. -/
--! needs LBase LDraw LRowsSame LPlank LPlankW LPlankU LPlankG LPlankQ LPlankT laws_FnPlanksLean
namespace Go.Proofs.Ytkokbcnecnpgcaa.X
open Go.Proofs.Ytkokbcnecnpgcaa.Sq Go.RowKit Go.Proofs.YtkokbcnecnpgcaaW.PrintWords Go.Proofs.YtkokbcnecnpgcaaW.PrintLast Go.Proofs.YtkokbcnecnpgcaaW.PrintMore
attribute [local go_sem] max2_int min2_int max_two min_two max_three min_three max_four min_four   -- for this text's walks alone
set_option linter.unusedVariables false
set_option linter.unusedSimpArgs false
theorem j13_ev (a b c : Int) (t o : Bool) (h : o = true → ∃ u v w : Nat, a = u ∧ b = v ∧ c = w ∧ 1 ≤ u ∧ u ≤ 100 ∧ 1 ≤ v ∧ v ≤ 100 ∧ 1 ≤ w ∧ w ≤ 200 ∧ t = turnB u v w) : Ev (fun k => laws_FnPlanksLean.j13 k a b c t o) true := by
  refine Ev.step (fun k => by rw [laws_FnPlanksLean.j13]) ?_
  cases o with
  | false => exact evNeg (by simp) (evSome rfl)
  | true =>
    obtain ⟨u, v, w, rfl, rfl, rfl, h1, h2, h3, h4, h5, h6, rfl⟩ := h rfl
    have tail : Ev (fun _ => if (w : Int) ≤ u then (if turnB u v w = true then (if (w : Int) ≤ v then (some true) else (some true)) else (none)) else (if (w : Int) ≤ v then (if turnB u v w = true then (some true) else (none)) else (some true))) true := by
      refine evSplit (fun c => ?_) (fun c => ?_)
      · exact evPos (turnB_wide (by omega)) (evSplit (fun _ => evSome rfl) (fun _ => evSome rfl))
      · refine evSplit (fun c => ?_) (fun c => evSome rfl)
        exact evPos (turnB_deep (by omega)) (evSome rfl)
    have no : Ev (fun k => laws_FnPlanksLean.j14 k u v w (turnB u v w) false) true := by
      refine Ev.step (fun k => by rw [laws_FnPlanksLean.j14]) ?_
      exact evNeg (by simp) tail
    refine evPos rfl (evSplit (fun c => ?_) (fun c => no))
    cases ht : turnB u v w with
    | false => rw [ht] at no; exact no
    | true =>
      rw [ht] at tail
      refine Ev.step (fun k => by rw [laws_FnPlanksLean.j14]) ?_
      have h := turn_i u v (w - 1) h1 h2 h3 h4 (by omega) (by omega)
      rw [show wrap64 ((w : Int) - 1) = ((w - 1 : Nat) : Int) from (w64 (by omega) (by omega)).trans (by omega)]
      exact evPos rfl (Ev.bind h (evPos rfl (evPos (turnB_less ht) tail)))
theorem j11_ev (r v : Int) (o : Bool) (a b c : Int) (t o2 : Bool) (h : o = true → ∃ l w : Nat, r = l ∧ v = w ∧ 1 ≤ l ∧ l ≤ 200 ∧ 1 ≤ w ∧ w ≤ 250 ∧ sqN w l = true ∧ sqN (w + 1) l = false) (hn : Ev (fun k => laws_FnPlanksLean.j13 k a b c t o2) true) : Ev (fun k => laws_FnPlanksLean.j11 k r v o a b c t o2) true := by
  refine Ev.step (fun k => by rw [laws_FnPlanksLean.j11]) ?_
  have no : Ev (fun k => laws_FnPlanksLean.j12 k r v a b c t o2 false) true := by
    refine Ev.step (fun k => by rw [laws_FnPlanksLean.j12]) ?_
    exact evNeg (by simp) hn
  cases o with
  | false => exact evNeg (by simp) no
  | true =>
    obtain ⟨l, w, rfl, rfl, h1, h2, h3, h4, h5, h6⟩ := h rfl
    refine evPos rfl ?_
    by_cases c100 : (w : Int) < 100
    · rw [decide_eq_true c100]
      refine Ev.step (fun k => by rw [laws_FnPlanksLean.j12]) ?_
      rw [show wrap64 ((w : Int) + 1) = ((w + 1 : Nat) : Int) from (w64 (by omega) (by omega)).trans (by omega)]
      exact evPos rfl (evBind0 (canSq w l h3 (by omega) h1 h2) (evBind0 (canSq (w + 1) l (by omega) (by omega) h1 h2) (evPos rfl (evPos h5 (evPos rfl (evNeg (by rw [h6]; simp) hn))))))
    · rw [decide_eq_false c100]
      exact no
theorem j9_ev (d l : Int) (o : Bool) (r v : Int) (o1 : Bool) (a b c : Int) (t o2 : Bool) (h : o = true → ∃ w m : Nat, d = w ∧ l = m ∧ 1 ≤ w ∧ w ≤ 100 ∧ 1 ≤ m ∧ m ≤ 100 ∧ sqN w m = true ∧ ∀ n, n < m → 1 ≤ n → sqN w n = false) (hn : Ev (fun k => laws_FnPlanksLean.j11 k r v o1 a b c t o2) true) : Ev (fun k => laws_FnPlanksLean.j9 k d l o r v o1 a b c t o2) true := by
  refine Ev.step (fun k => by rw [laws_FnPlanksLean.j9]) ?_
  have no : Ev (fun k => laws_FnPlanksLean.j10 k d l r v o1 a b c t o2 false) true := by
    refine Ev.step (fun k => by rw [laws_FnPlanksLean.j10]) ?_
    exact evNeg (by simp) hn
  cases o with
  | false => exact evNeg (by simp) no
  | true =>
    obtain ⟨w, m, rfl, rfl, h1, h2, h3, h4, h5, _⟩ := h rfl
    refine evPos rfl ?_
    rw [decide_eq_true (show (m : Int) ≤ 200 by omega)]
    refine Ev.step (fun k => by rw [laws_FnPlanksLean.j10]) ?_
    exact evPos rfl (evBind0 (canSq w m h1 h2 h3 (by omega)) (evPos rfl (evPos h5 hn)))
theorem j8_ev (w l : Int) (can o : Bool) (d l2 : Int) (o3 : Bool) (r v : Int) (o1 : Bool) (a b c : Int) (t o2 : Bool) (h : o = true → ∃ W L : Nat, w = W ∧ l = L ∧ 1 ≤ W ∧ W ≤ 100 ∧ 1 ≤ L ∧ L ≤ 200 ∧ can = sqN W L) (hn : Ev (fun k => laws_FnPlanksLean.j9 k d l2 o3 r v o1 a b c t o2) true) : Ev (fun k => laws_FnPlanksLean.j8 k w l can o d l2 o3 r v o1 a b c t o2 false) true := by
  refine Ev.step (fun k => by rw [laws_FnPlanksLean.j8]) ?_
  refine evNeg (by simp) ?_
  cases o with
  | false => exact evNeg (by simp) hn
  | true =>
    obtain ⟨W, L, rfl, rfl, h1, h2, h3, h4, rfl⟩ := h rfl
    obtain ⟨v1, o1', e1, _, e3⟩ := least_both (W : Int)
    have ho : o1' = true := by
      have e4 := e1
      unfold impl_LeastSquarePlank.f at e4
      cases o1' with
      | true => rfl
      | false =>
        exfalso
        have hs := leastF_spec W (W - 1) 1 (by rw [show 1 + (W - 1) = W by omega]; exact decide_eq_true (by have := Nat.mul_le_mul (show 8 * W ≤ 9 * W by omega) (Nat.le_refl W); omega)) (fun m h1 h2 => by omega)
        have e5 := evUniq e4 (evBind0 (ditch_i W) (evPos (show ditchB (W : Int) = true from decide_eq_true (by omega)) (least_i W h2 (W - 1) 1 (by omega))))
        simp at e5
    subst ho
    obtain ⟨W', m, hW, rfl, _, _, m1, m2, m3, m4⟩ := e3 rfl
    obtain rfl : W = W' := by omega
    have hd : sqN W L = decide ((L : Int) ≥ (m : Int)) := by
      by_cases c : m ≤ L
      · rw [sqN_mono m3 (Nat.le_refl _) c, decide_eq_true (by omega)]
      · rw [m4 L (by omega) h3, decide_eq_false (by omega)]
    refine evPos rfl (Ev.bind e1 (evPos rfl (evNeg ?_ hn)))
    rw [hd]
    simp
theorem j7_ev (q s top over : Int) (o7 : Bool) (w l : Int) (can o : Bool) (d l2 : Int) (o3 : Bool) (r v : Int) (o1 : Bool) (a b c : Int) (t o2 : Bool) (h : o7 = true → ∃ p f : Nat, q = p ∧ s = f ∧ p ≤ 200 ∧ f ≤ p ∧ top = (hgt p f : Int) ∧ over = (lft p f : Int)) (hn : Ev (fun k => laws_FnPlanksLean.j8 k w l can o d l2 o3 r v o1 a b c t o2 false) true) : Ev (fun k => laws_FnPlanksLean.j7 k q s top over o7 w l can o d l2 o3 r v o1 a b c t o2) true := by
  refine Ev.step (fun k => by rw [laws_FnPlanksLean.j7]) ?_
  cases o7 with
  | false => exact evNeg (by simp) hn
  | true =>
    obtain ⟨p, f, rfl, rfl, h1, h2, rfl, rfl⟩ := h rfl
    obtain ⟨g1, g2, g3⟩ := hgt_facts p f h2
    have hpp : p * p ≤ 200 * 200 := sq_le h1
    refine evPos rfl (evNeg (by omega) (evNeg (by omega) ?_))
    rw [cast_mul_w (hgt p f) (hgt p f) (by omega), cast_add_w _ _ (by omega), cast_mul_w f f (by have := sq_le h2; omega), cast_add_w _ _ (by omega), cast_mul_w p p (by omega), show wrap64 (2 * (hgt p f : Int)) = ((2 * hgt p f : Nat) : Int) from (w64 (by omega) (by have : hgt p f ≤ 200 := rootN_small (by omega); omega)).trans (by omega), decide_eq_false (show ¬ ((lft p f : Int) > ((2 * hgt p f : Nat) : Int)) by omega)]
    exact evPos (by omega) hn
theorem j6_ev (p0 f0 d0 hi le : Int) (o5 : Bool) (q s top over : Int) (o7 : Bool) (w l : Int) (can o : Bool) (d l2 : Int) (o3 : Bool) (r v : Int) (o1 : Bool) (a b c : Int) (t o2 : Bool) (h : o5 = true → ∃ p f g : Nat, p0 = p ∧ f0 = f ∧ d0 = g ∧ 1 ≤ p ∧ p ≤ 200 ∧ f + g ≤ p ∧ hi = (hgt p (f + g) : Int) ∧ le = (lft p (f + g) : Int)) (hn : Ev (fun k => laws_FnPlanksLean.j7 k q s top over o7 w l can o d l2 o3 r v o1 a b c t o2) true) : Ev (fun k => laws_FnPlanksLean.j6 k p0 f0 d0 hi le o5 q s top over o7 w l can o d l2 o3 r v o1 a b c t o2) true := by
  refine Ev.step (fun k => by rw [laws_FnPlanksLean.j6]) ?_
  cases o5 with
  | false => exact evNeg (by simp) hn
  | true =>
    obtain ⟨p, f, g, rfl, rfl, rfl, h1, h2, h3, rfl, rfl⟩ := h rfl
    rw [cast_add_w f g (by omega)]
    exact evPos rfl (Ev.bind (height_i' p (f + g) h1 h2 h3) (Ev.bind (height_i' p f h1 h2 (by omega)) (evPos rfl (evPos rfl (evPos rfl (evPos rfl (evNeg (by have := hgt_mono (p := p) (show f ≤ f + g by omega); omega) hn)))))))
/-! The loop over all leans. -/
theorem rowOf_at (x : (Nat × Nat) × Nat) : rowOf x = [(x.1.1 : Int), (x.1.2 : Int), (x.2 : Int)] := rfl
theorem rd3 (a b c : Int) : rd [a, b, c] 0 = a ∧ rd [a, b, c] 1 = b ∧ rd [a, b, c] 2 = c := ⟨rfl, rfl, rfl⟩
theorem rows_at (L : List ((Nat × Nat) × Nat)) (i : Nat) (h : i < L.length) : rd_L2 (L.map rowOf) (i : Int) = [(L[i].1.1 : Int), (L[i].1.2 : Int), (L[i].2 : Int)] := by
  unfold rd_L2
  rw [Int.toNat_natCast, getD_map' L rowOf i ((0, 0), 0) [] h, ← getElem_getD L i _ h]
  rfl
theorem filt_at (L : List ((Nat × Nat) × Nat)) (i : Nat) (h : i < L.length) (hp : primeQ L[i].1 = true) : ((L.take i).filter fun x => primeQ x.1).length < (L.filter fun x => primeQ x.1).length ∧ ∀ h2, (L.filter fun x => primeQ x.1)[((L.take i).filter fun x => primeQ x.1).length]'h2 = L[i] := by
  have e : L.filter (fun x => primeQ x.1) = (L.take i).filter (fun x => primeQ x.1) ++ L[i] :: (L.drop (i + 1)).filter (fun x => primeQ x.1) := by
    conv => lhs; rw [← List.take_append_drop i L, List.filter_append, List.drop_eq_getElem_cons h, List.filter_cons, hp]
    rfl
  refine ⟨by rw [e, List.length_append, List.length_cons]; omega, fun h2 => ?_⟩
  have h3 := congrArg (fun z => z[((L.take i).filter fun x => primeQ x.1).length]?) e
  rw [List.getElem?_append_right (Nat.le_refl _), Nat.sub_self, List.getElem?_cons_zero, List.getElem?_eq_getElem h2] at h3
  exact Option.some.inj h3
theorem filt_next (L : List ((Nat × Nat) × Nat)) (i : Nat) (h : i < L.length) : ((L.take (i + 1)).filter fun x => primeQ x.1).length = ((L.take i).filter fun x => primeQ x.1).length + (if primeQ L[i].1 = true then 1 else 0) := by
  rw [List.take_add_one, List.getElem?_eq_getElem h, List.filter_append, List.length_append]
  show _ + ((List.filter (fun x => primeQ x.1) [L[i]])).length = _
  rw [List.filter_cons]
  split <;> rfl
section
variable (p0 f0 d0 hi le : Int) (o5 : Bool) (q s top over : Int) (o7 : Bool) (w l : Int) (can o : Bool) (d l2 : Int) (o3 : Bool) (r v : Int) (o1 : Bool) (a b c : Int) (t o2 : Bool)
theorem l2_ev (m : Int) (A P : List (List Int)) (kk : Int) (X : List Int) (B : List (List Int)) (n i : Int) : ∀ (e x y : Nat), y ≤ e →
    Ev (fun k => laws_FnPlanksLean.l2 k m A P p0 f0 d0 hi le o5 q s top over o7 w l can o d l2 o3 r v o1 a b c t o2 kk X ((Nat.gcd x y : Nat) : Int) 0 B n i) true →
    Ev (fun k => laws_FnPlanksLean.l2 k m A P p0 f0 d0 hi le o5 q s top over o7 w l can o d l2 o3 r v o1 a b c t o2 kk X (x : Int) (y : Int) B n i) true := by
  intro e
  induction e with
  | zero =>
    intro x y hy h
    obtain rfl : y = 0 := by omega
    rw [Nat.gcd_zero_right] at h
    exact h
  | succ e ih =>
    intro x y hy h
    by_cases h0 : y = 0
    · subst h0
      rw [Nat.gcd_zero_right] at h
      exact h
    · refine Ev.step (fun k => by rw [laws_FnPlanksLean.l2]) ?_
      rw [tmod_nn]
      refine evPos (by omega) (evNeg (by omega) (ih y (x % y) (by have := Nat.mod_lt x (show 0 < y by omega); omega) ?_))
      rw [Nat.gcd_comm y (x % y), ← Nat.gcd_rec y x, Nat.gcd_comm]
      exact h
theorem l1_ev (m : Nat) (hm : m ≤ 200) (L : List ((Nat × Nat) × Nat)) (hl : L.length ≤ 40000) (hL : ∀ x ∈ L, x.2 ≤ m ∧ 1 ≤ x.1.1 ∧ x.1.1 ≤ x.1.2 ∧ x.1.1 * x.1.1 + x.1.2 * x.1.2 = x.2 * x.2) (hs : L.Pairwise ltP)
    (hn : Ev (fun k => laws_FnPlanksLean.j6 k p0 f0 d0 hi le o5 q s top over o7 w l can o d l2 o3 r v o1 a b c t o2) true) : ∀ e i : Nat, i + e = L.length →
    Ev (fun k => laws_FnPlanksLean.l1 k (m : Int) (L.map rowOf) ((L.filter fun x => primeQ x.1).map rowOf) p0 f0 d0 hi le o5 q s top over o7 w l can o d l2 o3 r v o1 a b c t o2 ((((L.take i).filter fun x => primeQ x.1).length : Nat) : Int) (L.map rowOf) ((L.length : Nat) : Int) (i : Int)) true := by
  intro e
  induction e with
  | zero =>
    intro i hie
    refine Ev.step (fun k => by rw [laws_FnPlanksLean.l1]) ?_
    rw [List.take_of_length_le (show L.length ≤ i by omega), List.length_map]
    exact evNeg (by omega) (evPos (by rw [List.length_map]) hn)
  | succ e ih =>
    intro i hie
    have hil : i < L.length := by omega
    refine Ev.step (fun k => by rw [laws_FnPlanksLean.l1]) ?_
    obtain ⟨x1, x2, x3, x4⟩ := hL _ (List.getElem_mem hil)
    have hprev : ∀ h0 : 0 < i, ltP (L[i - 1]'(by omega)) L[i] := fun h0 => List.pairwise_iff_getElem.1 hs (i - 1) i (by omega) hil (by omega)
    have hfa := filt_at L i hil
    have hfn := filt_next L i hil
    have hfl : ((L.take i).filter fun x => primeQ x.1).length ≤ 40000 := Nat.le_trans (List.length_filter_le _ _) (by rw [List.length_take]; omega)
    have hpr : ∀ h0 : 0 < i, rd_L2 (L.map rowOf) (wrap64 ((i : Int) - 1)) = [((L[i - 1]'(by omega)).1.1 : Int), ((L[i - 1]'(by omega)).1.2 : Int), ((L[i - 1]'(by omega)).2 : Int)] := fun h0 => by
      rw [show wrap64 ((i : Int) - 1) = ((i - 1 : Nat) : Int) from (w64 (by omega) (by omega)).trans (by omega)]
      exact rows_at L (i - 1) (by omega)
    have hrow := rows_at L i hil
    have ih1 := ih (i + 1) (by omega)
    rw [hfn] at ih1
    have hpp : L[i].2 * L[i].2 ≤ 200 * 200 := sq_le (by omega)
    have hxx : L[i].1.1 ≤ 200 ∧ L[i].1.2 ≤ 200 := by
      refine ⟨?_, ?_⟩
      · rcases Nat.lt_or_ge 200 L[i].1.1 with hh | hh
        · have := sq_lt hh; omega
        · exact hh
      · rcases Nat.lt_or_ge 200 L[i].1.2 with hh | hh
        · have := sq_lt hh; omega
        · exact hh
    rw [hrow, List.length_map]
    have hR : rowOf L[i] = [(L[i].1.1 : Int), (L[i].1.2 : Int), (L[i].2 : Int)] := rfl
    have hPR : ∀ (hp : primeQ L[i].1 = true), rd_L2 ((L.filter fun x => primeQ x.1).map rowOf) ((((L.take i).filter fun x => primeQ x.1).length : Nat) : Int) = [(L[i].1.1 : Int), (L[i].1.2 : Int), (L[i].2 : Int)] := fun hp => by
      obtain ⟨g1, g2⟩ := hfa hp
      rw [rows_at _ _ g1, g2]
    generalize L[i] = z at x1 x2 x3 x4 hprev hfa ih1 hpp hxx hR hPR ⊢
    obtain ⟨⟨za, zb⟩, zp⟩ := z
    dsimp only at x1 x2 x3 x4 ih1 hpp hxx hR hPR ⊢
    have hj4 : Ev (fun k => laws_FnPlanksLean.j4 k (m : Int) (L.map rowOf) ((L.filter fun x => primeQ x.1).map rowOf) p0 f0 d0 hi le o5 q s top over o7 w l can o d l2 o3 r v o1 a b c t o2 ((((L.take i).filter fun x => primeQ x.1).length : Nat) : Int) [(za : Int), (zb : Int), (zp : Int)] (L.map rowOf) ((L.length : Nat) : Int) (i : Int) false) true := by
      refine Ev.step (fun k => by rw [laws_FnPlanksLean.j4]) ?_
      refine evNeg (by simp) (evPos (by simp) (evPos (by simp) ?_))
      rw [(rd3 _ _ _).1, (rd3 _ _ _).2.1]
      refine l2_ev _ _ _ _ _ _ _ _ _ _ _ _ _ _ _ _ _ _ _ _ _ _ _ _ _ _ _ _ _ _ _ _ _ _ zb za zb (Nat.le_refl _) ?_
      refine Ev.step (fun k => by rw [laws_FnPlanksLean.l2]) ?_
      rw [show wrap64 ((i : Int) + 1) = ((i + 1 : Nat) : Int) from (w64 (by omega) (by omega)).trans (by omega), List.length_map]
      refine evNeg (by omega) ?_
      by_cases hg : Nat.gcd za zb = 1
      · have hp : primeQ (za, zb) = true := decide_eq_true hg
        obtain ⟨g1, _⟩ := hfa hp
        rw [if_pos hp] at ih1
        rw [hPR hp]
        rw [show wrap64 (((((L.take i).filter fun x => primeQ x.1).length : Nat) : Int) + 1) = ((((L.take i).filter fun x => primeQ x.1).length + 1 : Nat) : Int) from (w64 (by omega) (by omega)).trans (by omega)]
        refine evPos (by rw [hg]; rfl) (evNeg (by omega) (evPos (by omega) (evPos (by omega) (Ev.bind (kSame_self _ (by simp)) (evPos rfl ih1)))))
      · have hp : ¬ primeQ (za, zb) = true := by unfold primeQ; simpa using hg
        rw [if_neg hp, Nat.add_zero] at ih1
        exact evNeg (by omega) ih1
    rw [(rd3 _ _ _).1, (rd3 _ _ _).2.1, (rd3 _ _ _).2.2, cast_mul_w za za (by have := Nat.mul_le_mul hxx.1 hxx.1; omega), cast_mul_w zb zb (by have := Nat.mul_le_mul hxx.2 hxx.2; omega), cast_add_w _ _ (by omega), cast_mul_w zp zp (by omega)]
    refine evPos (by omega) (evPos (by omega) (evPos (by omega) (evPos (by simp) (evPos (by simp) (evPos (by simp) (evPos (by simp) (evPos (by omega) (evNeg (by omega) (evNeg (by omega) (evSplit (fun ci => ?_) (fun ci => hj4)))))))))))
    have h0 : 0 < i := by omega
    rw [hpr h0]
    have hlt := hprev h0
    generalize (L[i - 1]'(by omega)) = y at hlt ⊢
    obtain ⟨⟨ya, yb⟩, yp⟩ := y
    unfold ltP at hlt
    dsimp only at hlt ⊢
    rw [(rd3 _ _ _).1, (rd3 _ _ _).2.2, show wrap64 ((i : Int) - 1) = ((i - 1 : Nat) : Int) from (w64 (by omega) (by omega)).trans (by omega)]
    refine evPos (by omega) (evPos (by omega) (evPos (by simp) (evNeg (by omega) (evSplit (fun ce => ?_) (fun ce => hj4)))))
    rw [decide_eq_false (show ¬ ((ya : Int) ≥ (za : Int)) by omega)]
    exact evPos (by simp) hj4
end
end Go.Proofs.Ytkokbcnecnpgcaa.X
end
section
/- Whole leans have the square of the plank, prime ones have no common divisor, heights are the greatest whole ones, and squares are crossed as told. -/
--! needs LPlankL LDraw
namespace Go.Proofs.Ytkokbcnecnpgcaa.Pure
open Go.RowKit Go.Proofs.Ytkokbcnecnpgcaa.X Go.Proofs.YtkokbcnecnpgcaaW.PrintWords Go.Proofs.YtkokbcnecnpgcaaW.PrintLast
theorem among_ok {c : List Int} (hc : bytesOk c) (i s : Int) (l : List Int) (h0 : 0 ≤ i) (hB : i ≤ 1000000000) (hl : 1 ≤ l.length) (hl2 : l.length ≤ 1000) : ∃ v i' s', spec_l1Cur_among.f c i s l = some (v, i', s') ∧ i ≤ i' ∧ i' ≤ i + 2 ∧ v ∈ l := by
  obtain ⟨v, i', s', e, v0, v1, _, h1, h2⟩ := pick_ok hc i s (l.length : Int) h0 hB (by omega)
  unfold spec_l1Cur_among.f
  have v2 := v1 (by omega)
  rw [e]
  simp only [Option.bind_some]
  rw [if_pos v0, if_pos v2]
  refine ⟨_, _, _, rfl, h1, h2, ?_⟩
  unfold rd
  rw [List.getD_eq_getElem?_getD, List.getElem?_eq_getElem (show v.toNat < l.length by omega)]
  exact List.getElem_mem _
theorem plank_ok {c : List Int} (hc : bytesOk c) (i s : Int) (h0 : 0 ≤ i) (hB : i ≤ 1000) : ∃ v i' s', spec_l1Cur_plank.f c i s = some (v, i', s') ∧ i ≤ i' ∧ i' ≤ i + 4 ∧ -1 ≤ v := by
  obtain ⟨v, i1, s1, e, _, _, _, h1, h2⟩ := pick_ok hc i s 12 h0 (by omega) (by omega)
  unfold spec_l1Cur_plank.f spec_l1Cur_one.f
  rw [e]
  simp only [Option.bind_some]
  by_cases c1 : (v == 0) = true
  · obtain ⟨w, i2, s2, e2, h3, h4, hw⟩ := among_ok hc i1 s1 [0, (-1), 1, 200, 201, 4611686018427387904] (by omega) (by omega) (by simp) (by simp)
    rw [if_pos c1, e2]
    simp only [List.mem_cons, List.not_mem_nil, or_false] at hw
    exact ⟨w, i2, s2, rfl, by omega, by omega, by omega⟩
  · obtain ⟨w, i2, s2, e2, w0, w1, _, h3, h4⟩ := pick_ok hc i1 s1 20 (by omega) (by omega) (by omega)
    rw [if_neg c1, e2]
    refine ⟨wrap64 (1 + w), i2, s2, rfl, by omega, by omega, ?_⟩
    rw [w64 (by omega) (by omega)]
    omega
theorem draw_whole {c : List Int} (hc : bytesOk c) : ∃ v, spec_DrawWholeLeans.f c = some v := by
  obtain ⟨v, i1, s1, e, _, _, _, h1, h2⟩ := pick_ok hc 0 0 90 (by omega) (by omega) (by omega)
  obtain ⟨w, i2, s2, e2, _, _, _⟩ := among_ok hc i1 s1 [5, 10, 13, 25, 50, 65, 85, 125, 200, 201, 0, wrap64 (1 + v)] (by omega) (by omega) (by simp) (by simp)
  unfold spec_DrawWholeLeans.f
  rw [e]
  simp only [Option.bind_some]
  rw [e2]
  exact ⟨_, rfl⟩
theorem draw_great {c : List Int} (hc : bytesOk c) : ∃ v, spec_DrawGreatestSquare.f c = some v := by
  obtain ⟨v, i1, s1, e, _, _, _⟩ := plank_ok hc 0 0 (by omega) (by omega)
  unfold spec_DrawGreatestSquare.f
  rw [e]
  exact ⟨_, rfl⟩
theorem draw_upto {c : List Int} (hc : bytesOk c) : ∃ v, spec_DrawLeansUpTo.f c = some v := by
  obtain ⟨v, e⟩ := draw_great hc
  unfold spec_DrawLeansUpTo.f
  rw [e]
  exact ⟨_, rfl⟩
theorem least_30 (b : Int) (h : -1 ≤ b) : ∃ v, spec_l1Least.f 30 b = some v ∧ v ≤ 30 ∧ -1 ≤ v := by
  unfold spec_l1Least.f
  split
  · exact ⟨_, rfl, by omega, by omega⟩
  · exact ⟨_, rfl, by omega, by omega⟩
theorem draw_height {c : List Int} (hc : bytesOk c) : ∃ a b, spec_DrawLeanHeight.f c = some (a, b) := by
  obtain ⟨v, i1, s1, e, g1, g2, g3⟩ := plank_ok hc 0 0 (by omega) (by omega)
  obtain ⟨m, em, m1, m2⟩ := least_30 v g3
  have ew : wrap64 (m + 3) = m + 3 := w64 (by omega) (by omega)
  obtain ⟨w, i2, s2, e2, _⟩ := pick_ok hc i1 s1 (m + 3) (by omega) (by omega) (by omega)
  unfold spec_DrawLeanHeight.f
  rw [e]
  simp only [Option.bind_some]
  rw [em]
  simp only [Option.bind_some]
  rw [ew, e2]
  exact ⟨_, _, rfl⟩
theorem draw_step {c : List Int} (hc : bytesOk c) : ∃ a b d, spec_DrawStepOut.f c = some (a, b, d) := by
  obtain ⟨v, i1, s1, e, g1, g2, g3⟩ := plank_ok hc 0 0 (by omega) (by omega)
  obtain ⟨m, em, m1, m2⟩ := least_30 v g3
  have ew : wrap64 (m + 3) = m + 3 := w64 (by omega) (by omega)
  obtain ⟨w, i2, s2, e2, _, _, _, h1, h2⟩ := pick_ok hc i1 s1 (m + 3) (by omega) (by omega) (by omega)
  obtain ⟨x, i3, s3, e3, _⟩ := among_ok hc i2 s2 [0, 1, 2, 3, 8, 201, (-1)] (by omega) (by omega) (by simp) (by simp)
  unfold spec_DrawStepOut.f
  rw [e]
  simp only [Option.bind_some]
  rw [em]
  simp only [Option.bind_some]
  rw [ew, e2]
  simp only [Option.bind_some]
  rw [e3]
  exact ⟨_, _, _, rfl⟩
theorem draw_canSq {c : List Int} (hc : bytesOk c) : ∃ a b, spec_DrawCanSquare.f c = some (a, b) := by
  obtain ⟨v, i1, s1, e, g1, g2, g3⟩ := plank_ok hc 0 0 (by omega) (by omega)
  obtain ⟨v2, i2, s2, e2, _⟩ := plank_ok hc i1 s1 (by omega) (by omega)
  unfold spec_DrawCanSquare.f
  rw [e]
  simp only [Option.bind_some]
  rw [e2]
  exact ⟨_, _, rfl⟩
theorem draw_least {c : List Int} (hc : bytesOk c) : ∃ a, spec_DrawLeastSquarePlank.f c = some a := by
  obtain ⟨v, i1, s1, e, _, _, _, h1, h2⟩ := pick_ok hc 0 0 60 (by omega) (by omega) (by omega)
  obtain ⟨w, i2, s2, e2, _, _, _⟩ := among_ok hc i1 s1 [1, 3, 5, 10, 17, 100, 101, 0, wrap64 (1 + v)] (by omega) (by omega) (by simp) (by simp)
  unfold spec_DrawLeastSquarePlank.f
  rw [e]
  simp only [Option.bind_some]
  rw [e2]
  exact ⟨_, rfl⟩
theorem sureCorner_ok {c : List Int} (hc : bytesOk c) (i s : Int) (h0 : 0 ≤ i) (hB : i ≤ 1000) : ∃ a b i' s', spec_l1Cur_sureCorner.f c i s = some (a, b, i', s') ∧ i ≤ i' ∧ i' ≤ i + 6 := by
  obtain ⟨v, i1, s1, e, _, _, _, h1, h2⟩ := pick_ok hc i s 12 h0 (by omega) (by omega)
  obtain ⟨v2, i2, s2, e2, _, _, _, h3, h4⟩ := pick_ok hc i1 s1 2 (by omega) (by omega) (by omega)
  obtain ⟨v3, i3, s3, e3, _, _, _, h5, h6⟩ := pick_ok hc i2 s2 12 (by omega) (by omega) (by omega)
  unfold spec_l1Cur_sureCorner.f spec_l1Cur_one.f
  rw [e]
  simp only [Option.bind_some]
  rw [e2]
  simp only [Option.bind_some]
  by_cases c1 : (v2 == 0) = true
  · rw [if_pos c1]
    exact ⟨_, _, i2, s2, rfl, by omega, by omega⟩
  · rw [if_neg c1, e3]
    exact ⟨_, _, i3, s3, rfl, by omega, by omega⟩
theorem corner_ok {c : List Int} (hc : bytesOk c) (i s : Int) (h0 : 0 ≤ i) (hB : i ≤ 900) : ∃ a b i' s', spec_l1Cur_corner.f c i s = some (a, b, i', s') ∧ i ≤ i' ∧ i' ≤ i + 10 := by
  obtain ⟨a, b, i1, s1, e, h1, h2⟩ := sureCorner_ok hc i s h0 (by omega)
  obtain ⟨v2, i2, s2, e2, _, _, _, h3, h4⟩ := pick_ok hc i1 s1 16 (by omega) (by omega) (by omega)
  obtain ⟨w, i3, s3, e3, h5, h6, _⟩ := among_ok hc i2 s2 [0, (-1), 101, 4611686018427387904] (by omega) (by omega) (by simp) (by simp)
  unfold spec_l1Cur_corner.f
  rw [e]
  simp only [Option.bind_some]
  rw [e2]
  simp only [Option.bind_some]
  rw [e3]
  simp only [Option.bind_some]
  by_cases c1 : v2 = 0
  · rw [if_pos c1]
    exact ⟨_, _, i3, s3, rfl, by omega, by omega⟩
  · rw [if_neg c1]
    by_cases c2 : v2 = 1
    · rw [if_pos c2]
      exact ⟨_, _, i3, s3, rfl, by omega, by omega⟩
    · rw [if_neg c2]
      exact ⟨_, _, i2, s2, rfl, by omega, by omega⟩
theorem draw_turn {c : List Int} (hc : bytesOk c) : ∃ a b d, spec_DrawCanTurn.f c = some (a, b, d) := by
  obtain ⟨a, b, i1, s1, e, h1, h2⟩ := corner_ok hc 0 0 (by omega) (by omega)
  obtain ⟨w, i3, s3, e3, _⟩ := among_ok hc i1 s1 [1, 5, 8, 10, 12, 20, 22, 28, 30, 200, 201, 0] (by omega) (by omega) (by simp) (by simp)
  unfold spec_DrawCanTurn.f
  rw [e]
  simp only [Option.bind_some]
  rw [e3]
  exact ⟨_, _, _, rfl⟩
theorem pairs_facts (m : Nat) : ∀ x ∈ pairsL m, x.2 ≤ m ∧ 1 ≤ x.1.1 ∧ x.1.1 ≤ x.1.2 ∧ x.1.1 * x.1.1 + x.1.2 * x.1.2 = x.2 * x.2 := fun x hx => by
  obtain ⟨h1, h2, h3⟩ := (pairsF_mem _ _ x).1 hx
  obtain ⟨g1, g2, g3, g4⟩ := (leansL_mem _ _).1 h3
  exact ⟨by omega, g1, g3, g4⟩
theorem rows3_same (L : List ((Nat × Nat) × Nat)) (h : L.length ≤ 1000000) : Ev (fun k => laws_kRows.f k (L.map rowOf) (L.map rowOf)) true := kRows_self _ (by rw [List.length_map]; omega) (fun l hl => by
  obtain ⟨x, _, rfl⟩ := List.mem_map.1 hl
  rw [rowOf_at]
  simp)
theorem j2_ev {c : List Int} (hc : bytesOk c) : Ev (fun k => laws_FnPlanksLean.j2 k c) true := by
  refine Ev.step (fun k => by rw [laws_FnPlanksLean.j2]) ?_
  obtain ⟨m, d1⟩ := draw_upto hc
  obtain ⟨p, f, g, d2⟩ := draw_step hc
  obtain ⟨q, s, d3⟩ := draw_height hc
  obtain ⟨wi, lo, d4⟩ := draw_canSq hc
  obtain ⟨di, d5⟩ := draw_least hc
  obtain ⟨r, d6⟩ := draw_great hc
  obtain ⟨u, v, w, d7⟩ := draw_turn hc
  obtain ⟨x1, x2, o5, a1, a2, a3⟩ := step_both p f g
  obtain ⟨y1, y2, o7, b1, b2, b3⟩ := height_both q s
  obtain ⟨can, o9, c1, c2, c3⟩ := canSq_both wi lo
  obtain ⟨le, o11, e1, e2, e3⟩ := least_both di
  obtain ⟨gr, o13, g1, g2, g3⟩ := great_both r
  obtain ⟨tu, o15, t1, t2, t3⟩ := turn_both u v w
  have J13 := j13_ev u v w tu o15 t3
  have J11 := j11_ev r gr o13 u v w tu o15 g3 J13
  have J9 := j9_ev di le o11 r gr o13 u v w tu o15 e3 J11
  have J8 := j8_ev wi lo can o9 di le o11 r gr o13 u v w tu o15 c3 J9
  have J7 := j7_ev q s y1 y2 o7 wi lo can o9 di le o11 r gr o13 u v w tu o15 b3 J8
  have J6 := j6_ev p f g x1 x2 o5 q s y1 y2 o7 wi lo can o9 di le o11 r gr o13 u v w tu o15 a3 J7
  refine evBind0 d1 ?_
  by_cases cm : 1 ≤ m ∧ m ≤ 200
  · obtain ⟨M, rfl⟩ : ∃ M : Nat, m = M := ⟨m.toNat, by omega⟩
    have hl := pairsL_len M (by omega)
    have L1 := l1_ev p f g x1 x2 o5 q s y1 y2 o7 wi lo can o9 di le o11 r gr o13 u v w tu o15 M (by omega) (pairsL M) hl (pairs_facts M) (pairsF_sorted M 1) J6 (pairsL M).length 0 (by omega)
    refine Ev.bind (upto_i' M (by omega) (by omega)) (Ev.bind (upto_s M (by omega) (by omega)) (Ev.bind (prime_i M (by omega) (by omega)) (Ev.bind (prime_s M (by omega) (by omega)) ?_)))
    refine evBind0 d2 (Ev.bind a1 (Ev.bind a2 (evBind0 d3 (Ev.bind b1 (Ev.bind b2 (evBind0 d4 (evBind0 c1 (evBind0 c2 (evBind0 d5 (Ev.bind e1 (Ev.bind e2 (evBind0 d6 (Ev.bind g1 (Ev.bind g2 (evBind0 d7 (Ev.bind t1 (Ev.bind t2 ?_)))))))))))))))))
    refine evNeg (by simp) (Ev.bind (rows3_same _ (by omega)) (evPos rfl (evNeg (by simp) (Ev.bind (rows3_same _ (by have := List.length_filter_le (fun x => primeQ x.1) (pairsL M); omega)) (evPos rfl ?_)))))
    refine evNeg (by simp) (evNeg (by simp) (evPos rfl (evPos rfl (evNeg (by simp) (evPos rfl (evPos rfl (evNeg (by simp) (evNeg (by simp) (evNeg (by simp) (evPos rfl (evNeg (by simp) (evPos rfl (evNeg (by simp) (evNeg (by simp) (evPos rfl ?_)))))))))))))))
    rw [List.length_map]
    exact L1
  · obtain ⟨n1, n2⟩ := all_no m cm
    refine Ev.bind (upto_no m cm) (Ev.bind n1 (Ev.bind (prime_no m cm) (Ev.bind n2 ?_)))
    refine evBind0 d2 (Ev.bind a1 (Ev.bind a2 (evBind0 d3 (Ev.bind b1 (Ev.bind b2 (evBind0 d4 (evBind0 c1 (evBind0 c2 (evBind0 d5 (Ev.bind e1 (Ev.bind e2 (evBind0 d6 (Ev.bind g1 (Ev.bind g2 (evBind0 d7 (Ev.bind t1 (Ev.bind t2 ?_)))))))))))))))))
    have hk := kRows_self [] (by simp) (fun l hl => (List.not_mem_nil hl).elim)
    refine evNeg (by simp) (Ev.bind hk (evPos rfl (evNeg (by simp) (Ev.bind hk (evPos rfl ?_)))))
    refine evNeg (by simp) (evNeg (by simp) (evPos rfl (evPos rfl (evNeg (by simp) (evPos rfl (evPos rfl (evNeg (by simp) (evNeg (by simp) (evNeg (by simp) (evPos rfl (evNeg (by simp) (evPos rfl (evNeg (by simp) (evNeg (by simp) (evNeg (by simp) ?_)))))))))))))))
    exact J6
theorem rowsW_at (P i : Nat) (h : i < (leansL P).length) : rd_L2 (rowsW P) (i : Int) = [((leansL P)[i].1 : Int), ((leansL P)[i].2 : Int)] := by
  unfold rd_L2 rowsW
  rw [Int.toNat_natCast, getD_map' (leansL P) _ i (0, 0) [] h, ← getElem_getD (leansL P) i _ h]
theorem rd2 (a b : Int) : rd [a, b] 0 = a ∧ rd [a, b] 1 = b := ⟨rfl, rfl⟩
theorem l0_ev {c : List Int} (P : Nat) (h1 : 1 ≤ P) (hP : P ≤ 200) (hJ : Ev (fun k => laws_FnPlanksLean.j2 k c) true) : ∀ e i : Nat, i + e = (leansL P).length → Ev (fun k => laws_FnPlanksLean.l0 k c (P : Int) (rowsW P) (rowsW P) (((leansL P).length : Nat) : Int) (i : Int)) true := by
  have hlen : (rowsW P).length = (leansL P).length := by unfold rowsW; rw [List.length_map]
  have hl := leansL_len P
  intro e
  induction e with
  | zero =>
    intro i hi
    refine Ev.step (fun k => by rw [laws_FnPlanksLean.l0]) ?_
    refine evNeg (by omega) ?_
    rw [show wrap64 (2 * (P : Int)) = ((2 * P : Nat) : Int) from (w64 (by omega) (by omega)).trans (by omega)]
    refine evSplit (fun c2 => ?_) (fun _ => hJ)
    have h2 := leansL_twice P
    refine Ev.bind (whole_i (2 * P) (by omega) (by omega)) (evPos rfl (evNeg ?_ hJ))
    rw [hlen]
    unfold rowsW
    rw [List.length_map]
    omega
  | succ e ih =>
    intro i hi
    have hil : i < (leansL P).length := by omega
    refine Ev.step (fun k => by rw [laws_FnPlanksLean.l0]) ?_
    obtain ⟨x1, x2, x3, x4⟩ := (leansL_mem P _).1 (List.getElem_mem hil)
    have hroot : (leansL P)[i].2 = rootN (P * P - (leansL P)[i].1 * (leansL P)[i].1) := ((leansF_mem P _ _ _).1 (List.getElem_mem hil)).2.2.2.1
    have hs : ∀ h0 : 0 < i, ((leansL P)[i - 1]'(by omega)).1 < (leansL P)[i].1 := fun h0 => List.pairwise_iff_getElem.1 (leansF_sorted P (P - 1) 1) (i - 1) i (by show i - 1 < (leansL P).length; omega) hil (by omega)
    have hpr : ∀ h0 : 0 < i, rd_L2 (rowsW P) (wrap64 ((i : Int) - 1)) = [(((leansL P)[i - 1]'(by omega)).1 : Int), (((leansL P)[i - 1]'(by omega)).2 : Int)] := fun h0 => by
      rw [show wrap64 ((i : Int) - 1) = ((i - 1 : Nat) : Int) from (w64 (by omega) (by omega)).trans (by omega)]
      exact rowsW_at P (i - 1) (by omega)
    rw [rowsW_at P i hil, hlen]
    have ih1 := ih (i + 1) (by omega)
    have hpp : P * P ≤ 200 * 200 := sq_le hP
    generalize (leansL P)[i] = z at x1 x2 x3 x4 hroot hs ⊢
    obtain ⟨za, zb⟩ := z
    dsimp only at x1 x2 x3 x4 hroot hs ⊢
    have hzb : zb ≤ P := by
      rcases Nat.lt_or_ge P zb with hh | hh
      · have := sq_lt hh; omega
      · exact hh
    have hj1 : Ev (fun k => laws_FnPlanksLean.j1 k c (P : Int) (rowsW P) [(za : Int), (zb : Int)] (rowsW P) (((leansL P).length : Nat) : Int) (i : Int) false) true := by
      refine Ev.step (fun k => by rw [laws_FnPlanksLean.j1]) ?_
      rw [(rd2 _ _).1, (rd2 _ _).2, show wrap64 ((i : Int) + 1) = ((i + 1 : Nat) : Int) from (w64 (by omega) (by omega)).trans (by omega)]
      have hh : hgt P za = zb := hroot.symm
      have hlf : lft P za = 0 := by unfold lft; rw [hh]; omega
      refine evNeg (by simp) (evPos (by simp) (Ev.bind (height_i' P za h1 hP (by omega)) (evPos rfl (evPos (by simp) (evPos (by rw [hh]) (evPos (by rw [hlf]; rfl) ih1))))))
    rw [(rd2 _ _).1, (rd2 _ _).2, cast_mul_w za za (by omega), cast_mul_w zb zb (by have := sq_le hzb; omega), cast_add_w _ _ (by omega), cast_mul_w P P (by omega)]
    refine evPos (by omega) (evPos (by omega) (evPos (by omega) (evPos (by simp) (evPos (by simp) (evNeg (by omega) (evPos (by simp) (evNeg (by omega) (evPos (by omega) (evSplit (fun ci => ?_) (fun ci => hj1))))))))))
    have h0 : 0 < i := by omega
    rw [hpr h0]
    have hlt := hs h0
    rw [(rd2 _ _).1, show wrap64 ((i : Int) - 1) = ((i - 1 : Nat) : Int) from (w64 (by omega) (by omega)).trans (by omega)]
    refine evPos (by omega) (evPos (by omega) (evPos (by simp) ?_))
    rw [decide_eq_false (by omega)]
    exact hj1
theorem big_f (l0 l1 : List Int) (h0 : l0.length ≤ 9000000000000000000) (h1 : l1.length ≤ 9000000000000000000) : ∃ b, laws_big.f l0 l1 = some b ∧ (b = false → l0.length ≤ 1048576 ∧ l1.length ≤ 1048576) := by
  unfold laws_big.f
  by_cases c : (l0.length : Int) > 1048576
  · rw [if_pos c]
    exact ⟨_, rfl, fun h => by cases h⟩
  · rw [if_neg c]
    refine ⟨_, rfl, fun h => ?_⟩
    have h2 := of_decide_eq_false h
    rw [w64 (by omega) (by omega)] at h2
    omega
theorem rowsW_same (P : Nat) (hP : P ≤ 200) : Ev (fun k => laws_kRows.f k (rowsW P) (rowsW P)) true := by
  have hl := leansL_len P
  refine kRows_self _ (by unfold rowsW; rw [List.length_map]; omega) (fun l hl => ?_)
  obtain ⟨x, _, rfl⟩ := List.mem_map.1 hl
  simp
theorem FnPlanksLean : laws_FnPlanksLean.PureQ := by
  rintro l0 l1 ⟨hl0, hb0⟩ hm0 ⟨hl1, hb1⟩ hm1
  refine Ev.rounds ?_
  unfold laws_FnPlanksLean.f
  obtain ⟨b, hb, hsz⟩ := big_f l0 l1 (by unfold maxLen at hl0; omega) (by unfold maxLen at hl1; omega)
  refine evBind0 hb ?_
  cases b with
  | true => exact evPos rfl (evSome rfl)
  | false =>
    obtain ⟨s0, s1⟩ := hsz rfl
    have ok0 : bytesOk l0 := bytesOk_of hb0 s0
    have ok1 : bytesOk l1 := bytesOk_of hb1 s1
    have hJ := j2_ev ok1
    obtain ⟨p, hp⟩ := draw_whole ok0
    refine evNeg (by simp) (evBind0 hp ?_)
    by_cases cp : 1 ≤ p ∧ p ≤ 200
    · obtain ⟨P, rfl⟩ : ∃ P : Nat, p = P := ⟨p.toNat, by omega⟩
      refine Ev.bind (whole_i P (by omega) (by omega)) (Ev.bind (whole_s P (by omega) (by omega)) (evNeg (by simp) (Ev.bind (rowsW_same P (by omega)) (evPos rfl (evPos rfl ?_)))))
      have hL := l0_ev P (by omega) (by omega) hJ (leansL P).length 0 (by omega)
      rw [show (rowsW P).length = (leansL P).length by unfold rowsW; rw [List.length_map]]
      exact hL
    · obtain ⟨n1, n2⟩ := whole_no p cp
      exact Ev.bind n1 (Ev.bind n2 (evNeg (by simp) (Ev.bind (kRows_self [] (by simp) (fun l hl => (List.not_mem_nil hl).elim)) (evPos rfl (evNeg (by simp) hJ)))))
end Go.Proofs.Ytkokbcnecnpgcaa.Pure
end
section
/- How an argument of any plain type is opened: what the row says of it gives what the walks read. -/
set_option linter.unusedVariables false
namespace Go.Proofs.Ytkokbcnecnpgcaa.Open
open Go.ChangeShapes Go.WideShapes Go.Deep Go.RowKit Go.Proofs.YtkokbcnecnpgcaaW.PrintWords
/-- Whatever reads at type t is a value of the kind d, and meets wf. -/
structure Opens {α : Type} (P : Program) (t : TypeId) (d : Kd α) (wf : α → Prop) : Prop where
  intro ::
  size : P.cellsOf t = d.sz
  all : ∀ (H : Type) (enc : TypeId × Value → H) (w : World) (base : Nat) (spare : Nat → Bool) (held : Bool) (fuel : Nat) (cs : List Value) (x : DataW H × List MemPlace),
    DataW.trod enc P w base spare held fuel t cs = some x → ∃ a : α, d.K w a cs ∧ wf a
theorem opens_int {P : Program} {t : TypeId} {k : IntKind} (ht : P.underlying t = some (.int k)) (hc : P.cellsOf t = 1) : Opens P t (Kd.int k) (fun n => (Lit.int k n).wf = true) := by
  refine ⟨hc, fun H enc w base spare held fuel cs x h => ?_⟩
  obtain ⟨n, rfl, _, hw⟩ := DataW.trod_int ht h
  exact ⟨n, rfl, hw⟩
theorem choose_list {α : Type} {Q : Nat → α → Prop} : ∀ (n : Nat), (∀ i, i < n → ∃ a, Q i a) → ∃ l : List α, l.length = n ∧ ∀ i a, l[i]? = some a → Q i a
  | 0, _ => ⟨[], rfl, fun i a h => by simp at h⟩
  | n + 1, h => by
    obtain ⟨l, hl, hq⟩ := choose_list n (fun i hi => h i (by omega))
    obtain ⟨a, ha⟩ := h n (by omega)
    refine ⟨l ++ [a], by simp [hl], fun i b hb => ?_⟩
    by_cases hi : i < l.length
    · rw [List.getElem?_append_left hi] at hb
      exact hq i b hb
    · rw [List.getElem?_append_right (by omega)] at hb
      by_cases e : i - l.length = 0
      · rw [e] at hb
        simp at hb
        subst hb
        have : i = n := by omega
        rw [this]
        exact ha
      · rw [List.getElem?_singleton, if_neg e] at hb
        cases hb
theorem cells?_at {w : World} {base : Nat} {a : Addr} {n : Nat} {cs : List Value} (h : w.cells? base a n = some cs) : cs.length = n ∧ ∀ i u, cs[i]? = some u → w.cell? (a.add i) = some u := by
  obtain ⟨_, hl, hat⟩ := World.cells?_some h
  refine ⟨hl, fun i u hi => ?_⟩
  have : i < n := by rw [← hl]; exact (List.getElem?_eq_some_iff.1 hi).1
  rw [hat i this]
  exact hi
theorem opens_slice {α : Type} {P : Program} {t e : TypeId} {d : Kd α} {wf : α → Prop} (ht : P.underlying t = some (.slice e)) (hc : P.cellsOf t = 1) (he : Opens P e d wf) : Opens P t (Kd.slice e d) (fun l => l.length ≤ maxLen ∧ ∀ x ∈ l, wf x) := by
  refine ⟨hc, fun H enc w base spare held fuel cs x h => ?_⟩
  rcases open_slice ht h with ⟨rfl, _⟩ | ⟨a, len, cap, m, n, D, Pl, rfl, _, hl, hm, hmm, _, hi⟩
  · exact ⟨[], ⟨none, 0, rfl, by simp, Kd.C_nil d w⟩, by simp, by simp⟩
  · have hlm : len ≤ m := by rw [hmm]; split <;> omega
    obtain ⟨l, hll, hq⟩ := choose_list (Q := fun i (b : α) => ∃ c, c.length = d.sz ∧ d.K w b c ∧ wf b ∧ ∀ j u, c[j]? = some u → w.cell? (a.add (i * d.sz + j)) = some u) len (fun i hil => by
      obtain ⟨cs', h1, h2⟩ := hi i (by omega)
      obtain ⟨hl1, hat⟩ := cells?_at h1
      obtain ⟨b, hK, hwf⟩ := he.2 _ _ _ _ _ _ _ _ _ h2
      refine ⟨b, cs', by rw [hl1, he.1], hK, hwf, fun j u hj => ?_⟩
      have := hat j u hj
      rw [Go.Deep.add_add, he.1] at this
      exact this)
    refine ⟨l, ⟨some a, cap, by rw [hll], by omega, ⟨rfl, by rw [hll]; unfold maxLen at hm; omega, fun _ => ⟨a, rfl, fun j p hp => ?_⟩⟩⟩, by rw [hll]; omega, fun x hx => ?_⟩
    · obtain ⟨c, h1, h2, _, h4⟩ := hq j p hp
      exact ⟨c, h1, h2, h4⟩
    · obtain ⟨i, hi⟩ := List.getElem?_of_mem hx
      obtain ⟨c, _, _, h3, _⟩ := hq i x hi
      exact h3
/-- The fields from place o on. -/
structure OpensFs {α : Type} (P : Program) (fs : List Field) (o : Nat) (d : Kd α) (wf : α → Prop) : Prop where
  intro ::
  all : ∀ (H : Type) (enc : TypeId × Value → H) (w : World) (base : Nat) (spare : Nat → Bool) (held : Bool) (n : Nat) (cs : List Value), cs.length = o + d.sz →
    (∀ (i : Nat) (f : Field), fs[i]? = some f → ∃ y, DataW.trod enc P w base spare held n f.type ((cs.drop f.offset).take (P.cellsOf f.type)) = some y) → ∃ a : α, d.K w a (cs.drop o) ∧ wf a
/-- A parameter. -/
theorem opens_arg {H α : Type} {enc : TypeId × Value → H} {P : Program} {W : World} {base : Nat} {spare : Nat → Bool} {held : Bool} {t : TypeId} {v : Value} {x : DataW H} {ps : List MemPlace} {d : Kd α} {wf : α → Prop} (ho : Opens P t d wf) (h : DataW.Trod enc P W base spare held t v x ps) : ∃ a : α, d.K W a v.cells.toList ∧ wf a := by
  obtain ⟨fuel, hf⟩ := h
  exact ho.2 _ _ _ _ _ _ _ _ _ hf
theorem trod_lt_arg {H : Type} {enc : TypeId × Value → H} {P : Program} {W : World} {base : Nat} {spare : Nat → Bool} {held : Bool} {t : TypeId} {v : Value} {x : DataW H} {ps : List MemPlace} (h : DataW.Trod enc P W base spare held t v x ps) : ∀ y ∈ ps, y.block < W.heap.size := by
  obtain ⟨m, hm⟩ := h
  exact DataW.trod_lt m _ _ _ hm
end Go.Proofs.Ytkokbcnecnpgcaa.Open
end
