/- The longest rising lists of places: the program and the reference. -/
--! needs LBase LOrd spec_ptRising impl_LongestRising
import Derived.Test.YtfegbmlcbdjcgaaX0
import Derived.Test.YtfegbmlcbdjcgaaX2
import Derived.Test.YtfegbmlcbdjcgaaX3
import Derived.Test.YtfegbmlcbdjcgaaELongestRising
import Derived.Test.YtfegbmlcbdjcgaaLBase
import Derived.Test.YtfegbmlcbdjcgaaLOrd
namespace Go.Proofs.Ytfegbmlcbdjcgaa.X
open Go.Proofs.Ytfegbmlcbdjcgaa.Sq Go.RowKit Go.Proofs.YtfegbmlcbdjcgaaW.PrintWords Go.Proofs.YtfegbmlcbdjcgaaW.PrintLast Go.Proofs.YtfegbmlcbdjcgaaW.PrintMore
attribute [local go_sem] max2_int min2_int max_two min_two max_three min_three max_four min_four   -- for this text's walks alone
set_option linter.unusedVariables false
set_option linter.unusedSimpArgs false

theorem rdR (l : List Int) (i : Nat) : rd l (i : Int) = l.getD i 0 := by unfold rd; rw [Int.toNat_natCast]
theorem ordB_nodupR (l : List Int) (h : ordB l = true) : l.Nodup := by
  unfold ordB at h
  simp only [Bool.and_eq_true, decide_eq_true_eq] at h
  exact ((iso_iff l).1 h.1).2
/-- The longer one, the first of two that are as long. -/
def updR (b x : List Int) : List Int := if b.length < x.length then x else b
theorem updR_assoc (b x y : List Int) : updR (updR b x) y = updR b (updR x y) := by
  unfold updR
  by_cases h1 : b.length < x.length <;> by_cases h2 : x.length < y.length <;> by_cases h3 : b.length < y.length <;> simp [h1, h2, h3] <;> omega
def RL (o : List Int) : Nat → Nat → List Int → Int → List Int → List Int
 | 0, _, _, _, b => b
 | e + 1, i, l, la, b => RL o e (i + 1) l la (if la < o.getD i 0 then updR b (RL o e (i + 1) (l ++ [(i : Int)]) (o.getD i 0) (l ++ [(i : Int)])) else b)
theorem RL_upd (o : List Int) : ∀ (e i : Nat) (l : List Int) (la : Int) (b x : List Int), RL o e i l la (updR b x) = updR b (RL o e i l la x)
 | 0, _, _, _, _, _ => rfl
 | e + 1, i, l, la, b, x => by
  show RL o e (i + 1) l la _ = updR b (RL o e (i + 1) l la _)
  rw [← RL_upd o e (i + 1) l la b]
  congr 1
  split
  · rw [updR_assoc]
  · rfl
theorem RL_len (o : List Int) (n : Nat) : ∀ (e i : Nat) (l : List Int) (la : Int) (b : List Int), b.length ≤ n → l.length + e ≤ n → (RL o e i l la b).length ≤ n
 | 0, _, _, _, _, hb, _ => hb
 | e + 1, i, l, la, b, hb, hl => by
  show (RL o e (i + 1) l la _).length ≤ n
  refine RL_len o n e (i + 1) l la _ ?_ (by omega)
  split
  · unfold updR
    split
    · exact RL_len o n e (i + 1) _ _ _ (by simp; omega) (by simp; omega)
    · exact hb
  · exact hb
/-- The list's last boat, or 0. -/
def wfR (o l : List Int) (la : Int) (i : Nat) : Prop := (l = [] ∧ la = 0) ∨ ∃ (m : List Int) (j : Nat), l = m ++ [(j : Int)] ∧ j < i ∧ j < o.length ∧ la = o.getD j 0
theorem rise_l0 (o : List Int) (hl8 : o.length ≤ 8) (hn : o.Nodup) (hp : ∀ x ∈ o, 1 ≤ x) (e : Nat) : ∀ (i : Nat) (l : List Int) (la : Int) (b : List Int), i + e = o.length → wfR o l la i → l.length ≤ i → b.length ≤ 1000 → Ev (fun k => spec_ptRising.l0 k o l b (i : Int)) (RL o e i l la b) := by
  induction e with
  | zero =>
    intro i l la b hi _ _ _
    refine Ev.step (fun k => by rw [spec_ptRising.l0]) ?_
    exact evNeg (by omega) (evSome rfl)
  | succ e ih =>
    intro i l la b hi hw hll hbl
    have hown : ∀ m : List Int, m.length ≤ 1000 → spec_l1Own.f m = some m := by
      intro m hm
      unfold spec_l1Own.f
      simp only [Option.bind_some, List.nil_append, List.length_nil, Nat.zero_add]
      rw [if_pos (by omega)]
    have hpi : 1 ≤ o.getD i 0 := by
      rw [← getElem_getD o i 0 (by omega)]
      exact hp _ (List.getElem_mem _)
    -- the child
    have hchild : Ev (fun k => spec_ptRising.f k o (l ++ [(i : Int)])) (RL o e (i + 1) (l ++ [(i : Int)]) (o.getD i 0) (l ++ [(i : Int)])) := by
      refine Ev.step (fun k => by rw [spec_ptRising.f]) ?_
      have hlen : (l ++ [(i : Int)]).length = l.length + 1 := by simp
      have hlast : rd (l ++ [(i : Int)]) ((l.length : Nat) : Int) = (i : Int) := by
        rw [rdR, List.getD_eq_getElem?_getD, List.getElem?_append_right (Nat.le_refl _), Nat.sub_self]
        rfl
      rw [hlen, show wrap64 (((l.length + 1 : Nat) : Int) - 1) = ((l.length : Nat) : Int) from (w64 (by omega) (by omega)).trans (by omega), hlast, i1o i (by omega)]
      refine evBind0 (hown _ (by rw [hlen]; omega)) (evPos (by omega) (evPos (by omega) (evPos (by omega) ?_)))
      refine Ev.step (fun k => by rw [spec_ptRising.j0]) ?_
      exact ih (i + 1) (l ++ [(i : Int)]) (o.getD i 0) _ (by omega) (.inr ⟨l, i, rfl, by omega, by omega, rfl⟩) (by rw [hlen]; omega) (by rw [hlen]; omega)
    have hcl := RL_len o 1000 e (i + 1) (l ++ [(i : Int)]) (o.getD i 0) (l ++ [(i : Int)]) (by simp; omega) (by simp; omega)
    have hj2 : ∀ d : Bool, (d = true ↔ ¬ la < o.getD i 0) → Ev (fun k => spec_ptRising.j2 k o l b (i : Int) d) (RL o (e + 1) i l la b) := by
      intro d hd
      refine Ev.step (fun k => by rw [spec_ptRising.j2]) ?_
      rw [i1o i (by omega)]
      show Ev _ (RL o e (i + 1) l la _)
      have hw2 : wfR o l la (i + 1) := by
        rcases hw with h | ⟨m, j, h1, h2, h3, h4⟩
        · exact .inl h
        · exact .inr ⟨m, j, h1, by omega, h3, h4⟩
      by_cases c : la < o.getD i 0
      · have hdf : d = false := by
          cases d with
          | false => rfl
          | true => exact absurd c (hd.1 rfl)
        rw [if_pos c]
        refine evNeg (by rw [hdf]; simp) (evBind0 (hown l (by omega)) (evPos (by omega) (Ev.bind hchild ?_)))
        unfold updR
        refine evSplit (fun z => ?_) (fun z => ?_)
        · rw [if_pos (by omega)]
          exact ih (i + 1) l la _ (by omega) hw2 (by omega) hcl
        · rw [if_neg (by omega)]
          exact ih (i + 1) l la _ (by omega) hw2 (by omega) hbl
      · rw [if_neg c]
        exact evPos (hd.2 c) (ih (i + 1) l la _ (by omega) hw2 (by omega) hbl)
    refine Ev.step (fun k => by rw [spec_ptRising.l0]) ?_
    refine evPos (by omega) ?_
    rcases hw with ⟨rfl, rfl⟩ | ⟨m, j, rfl, h2, h3, h4⟩
    · exact evNeg (by simp) (hj2 false ⟨fun h => by simp at h, fun h => absurd (by omega) h⟩)
    · have hlen : (m ++ [(j : Int)]).length = m.length + 1 := by simp
      have hlast : rd (m ++ [(j : Int)]) ((m.length : Nat) : Int) = (j : Int) := by
        rw [rdR, List.getD_eq_getElem?_getD, List.getElem?_append_right (Nat.le_refl _), Nat.sub_self]
        rfl
      have hne : o.getD i 0 ≠ o.getD j 0 := by
        rw [← getElem_getD o i 0 (by omega), ← getElem_getD o j 0 h3]
        intro e
        have := (List.getElem_inj hn).1 e
        omega
      rw [hlen, show wrap64 (((m.length + 1 : Nat) : Int) - 1) = ((m.length : Nat) : Int) from (w64 (by omega) (by omega)).trans (by omega), hlast, rdR, rdR]
      refine evPos (by omega) (evPos (by omega) (evPos (by omega) (evPos (by omega) (evPos (by omega) (evPos (by omega) (hj2 _ ?_))))))
      rw [decide_eq_true_eq, h4]
      omega
theorem rise_spec (o : List Int) (hl8 : o.length ≤ 8) (hn : o.Nodup) (hp : ∀ x ∈ o, 1 ≤ x) : Ev (fun k => spec_ptRising.f k o []) (RL o o.length 0 [] 0 []) := by
  refine Ev.step (fun k => by rw [spec_ptRising.f]) ?_
  refine evBind0 (a := ([] : List Int)) rfl (evNeg (by simp) ?_)
  refine Ev.step (fun k => by rw [spec_ptRising.j0]) ?_
  exact rise_l0 o hl8 hn hp o.length 0 [] 0 [] (Nat.zero_add _) (.inl ⟨rfl, rfl⟩) (Nat.le_refl _) (by simp)
theorem choose_l0 (o : List Int) (hl8 : o.length ≤ 8) (e : Nat) : ∀ (i : Nat) (l : List Int) (la : Int) (b : List Int), i + e = o.length → l.length ≤ i → Ev (fun k => impl_LongestRising_1.l0 k o b l la (i : Int)) (RL o e i l la b) := by
  induction e with
  | zero =>
    intro i l la b hi _
    refine Ev.step (fun k => by rw [impl_LongestRising_1.l0]) ?_
    exact evNeg (by omega) (evSome rfl)
  | succ e ih =>
    intro i l la b hi hll
    refine Ev.step (fun k => by rw [impl_LongestRising_1.l0]) ?_
    rw [i1o i (by omega), rdR]
    show Ev _ (RL o e (i + 1) l la _)
    refine evPos (by omega) (evPos (by omega) (evSplit (fun c => ?_) (fun c => ?_)))
    · rw [if_pos (by omega)]
      refine evPos (by omega) (Ev.bind (a := updR b (RL o e (i + 1) (l ++ [(i : Int)]) (o.getD i 0) (l ++ [(i : Int)]))) ?_ (ih (i + 1) l la _ (by omega) (by omega)))
      rw [← RL_upd]
      refine Ev.step (fun k => by rw [impl_LongestRising_1.f]) ?_
      unfold updR
      refine evSplit (fun z => ?_) (fun z => ?_)
      · rw [if_pos (by omega)]
        exact ih (i + 1) (l ++ [(i : Int)]) (o.getD i 0) _ (by omega) (by simp; omega)
      · rw [if_neg (by omega)]
        exact ih (i + 1) (l ++ [(i : Int)]) (o.getD i 0) _ (by omega) (by simp; omega)
    · rw [if_neg (by omega)]
      exact ih (i + 1) l la b (by omega) (by omega)
def riseC (o : List Int) : List Int × Bool := if ordB o = true then (RL o o.length 0 [] 0 [], true) else ([], false)
theorem ordB_pos (o : List Int) (h : ordB o = true) : ∀ x ∈ o, 1 ≤ x := by
  unfold ordB at h
  simp only [Bool.and_eq_true, decide_eq_true_eq] at h
  exact fun x hx => (((iso_iff o).1 h.1).1 x hx).1
theorem Rising_impl (o : List Int) (ho : o.length ≤ 1048576) : Ev (fun k => impl_LongestRising.f k o) (riseC o) := by
  unfold impl_LongestRising.f riseC
  refine evBind0 (IsOrder_eq o (by omega)) ?_
  by_cases h : ordB o = true
  · rw [if_pos h]
    refine evPos h (Ev.bind ?_ (evSome rfl))
    have hl := ordB_len o h
    refine Ev.step (fun k => by rw [impl_LongestRising_1.f]) ?_
    exact evNeg (by simp) (choose_l0 o hl.2 o.length 0 [] 0 [] (Nat.zero_add _) (Nat.le_refl _))
  · rw [if_neg h]
    exact evNeg h (evSome rfl)
theorem riseC_len (o : List Int) : (riseC o).1.length ≤ 8 := by
  unfold riseC
  split
  · rename_i h
    have hl := ordB_len o h
    exact RL_len o 8 o.length 0 [] 0 [] (by simp) (by simp; omega)
  · simp
end Go.Proofs.Ytfegbmlcbdjcgaa.X
