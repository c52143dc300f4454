/- The cycles of an order: the program and the reference. -/
--! needs LBase LOrd LIntSS spec_ptCycles impl_cycles
import Derived.Test.YtfegbmlcbdjcgaaX0
import Derived.Test.YtfegbmlcbdjcgaaX3
import Derived.Test.YtfegbmlcbdjcgaaX7
import Derived.Test.YtfegbmlcbdjcgaaLBase
import Derived.Test.YtfegbmlcbdjcgaaLOrd
import Derived.Test.YtfegbmlcbdjcgaaLIntSS
namespace Go.Proofs.Ytfegbmlcbdjcgaa.X
open Go.Proofs.Ytfegbmlcbdjcgaa.Sq Go.RowKit Go.Proofs.YtfegbmlcbdjcgaaW.PrintWords Go.Proofs.YtfegbmlcbdjcgaaW.PrintLast Go.Proofs.YtfegbmlcbdjcgaaW.PrintMore
attribute [local go_sem] max2_int min2_int max_two min_two max_three min_three max_four min_four   -- for this text's walks alone
set_option linter.unusedVariables false
set_option linter.unusedSimpArgs false

def cyW (o : List Int) : Nat → List Bool → List Int → Nat → List Bool × List Int
 | 0, s, c, _ => (s, c)
 | e + 1, s, c, p => if s.getD p false = true then (s, c) else cyW o e (s.set p true) (c ++ [(p : Int)]) ((o.getD p 0).toNat - 1)
def cyA (o : List Int) (n : Nat) : Nat → Nat → List Bool → List (List Int) → List (List Int)
 | 0, _, _, out => out
 | e + 1, i, s, out => if s.getD i false = true then cyA o n e (i + 1) s out else cyA o n e (i + 1) (cyW o (n + 1) s [] i).1 (out ++ [(cyW o (n + 1) s [] i).2])
theorem cyW_slen (o : List Int) : ∀ (e : Nat) (s : List Bool) (c : List Int) (p : Nat), (cyW o e s c p).1.length = s.length
 | 0, _, _, _ => rfl
 | e + 1, s, c, p => by
  unfold cyW
  split
  · rfl
  · rw [cyW_slen o e, List.length_set]
theorem cyW_ge (o : List Int) : ∀ (e : Nat) (s : List Bool) (c : List Int) (p : Nat), c.length ≤ (cyW o e s c p).2.length
 | 0, _, _, _ => Nat.le_refl _
 | e + 1, s, c, p => by
  unfold cyW
  split
  · exact Nat.le_refl _
  · have := cyW_ge o e (s.set p true) (c ++ [(p : Int)]) ((o.getD p 0).toNat - 1)
    rw [List.length_append] at this
    omega
theorem cyW_le (o : List Int) : ∀ (e : Nat) (s : List Bool) (c : List Int) (p : Nat), (cyW o e s c p).2.length ≤ c.length + e
 | 0, _, _, _ => Nat.le_refl _
 | e + 1, s, c, p => by
  unfold cyW
  split
  · exact Nat.le_add_right _ _
  · have := cyW_le o e (s.set p true) (c ++ [(p : Int)]) ((o.getD p 0).toNat - 1)
    rw [List.length_append, List.length_singleton] at this
    omega
theorem cnt_set : ∀ (s : List Bool) (p : Nat), p < s.length → ¬ s.getD p false = true → (s.set p true).count false + 1 = s.count false
 | [], p, h, _ => by simp at h
 | b :: s, 0, _, hb => by
  cases b with
  | true => exact absurd rfl hb
  | false => simp
 | b :: s, p + 1, h, hb => by
  have := cnt_set s p (by simpa using h) (by simpa using hb)
  rw [List.set_cons_succ, List.count_cons, List.count_cons]
  omega
theorem rdB (s : List Bool) (p : Nat) : rdOf false s (p : Int) = s.getD p false := by unfold rdOf; rw [Int.toNat_natCast]
theorem rdC (l : List Int) (i : Nat) : rd l (i : Int) = l.getD i 0 := by unfold rd; rw [Int.toNat_natCast]
/-- Every boat's number is a place's. -/
def goodO (o : List Int) : Prop := ∀ p : Nat, p < o.length → 1 ≤ o.getD p 0 ∧ o.getD p 0 ≤ (o.length : Int)
theorem ordB_good (o : List Int) (h : ordB o = true) : goodO o := by
  unfold ordB at h
  simp only [Bool.and_eq_true, decide_eq_true_eq] at h
  intro p hp
  rw [← getElem_getD o p 0 hp]
  exact ((iso_iff o).1 h.1).1 _ (List.getElem_mem _)
theorem nextP (o : List Int) (hg : goodO o) (p : Nat) (hp : p < o.length) (h8 : o.length ≤ 1000) : wrap64 (o.getD p 0 - 1) = (((o.getD p 0).toNat - 1 : Nat) : Int) ∧ (o.getD p 0).toNat - 1 < o.length := by
  obtain ⟨h1, h2⟩ := hg p hp
  generalize o.getD p 0 = z at h1 h2
  exact ⟨(w64 (by omega) (by omega)).trans (by omega), by omega⟩
theorem walk_impl (o : List Int) (hg : goodO o) (h8 : o.length ≤ 8) (out : List (List Int)) (n first : Int) (R : List (List Int)) : ∀ (e : Nat) (s : List Bool) (c : List Int) (p : Nat), s.length = o.length → p < o.length → s.count false < e → c.length + e ≤ 1000 →
    Ev (fun k => if ((cyW o e s c p).2.length : Int) > 0 then (if out.length < 5864062014805 then impl_cycles.l0 k o (out ++ [(cyW o e s c p).2]) (cyW o e s c p).1 n (wrap64 (first + 1)) else none) else impl_cycles.l0 k o out (cyW o e s c p).1 n (wrap64 (first + 1))) R →
    Ev (fun k => impl_cycles.l1 k o out s c (p : Int) n first) R
 | 0, _, _, _, _, _, h, _, _ => absurd h (Nat.not_lt_zero _)
 | e + 1, s, c, p, hs, hp, hc, hb, hK => by
  refine Ev.step (fun k => by rw [impl_cycles.l1]) ?_
  refine evPos (by omega) (evPos (by omega) ?_)
  rw [rdB]
  unfold cyW at hK
  by_cases hz : s.getD p false = true
  · rw [if_pos hz] at hK
    exact evPos hz hK
  · rw [if_neg hz] at hK
    obtain ⟨hw, hlt⟩ := nextP o hg p hp (by omega)
    refine evNeg hz (evPos (by omega) (evPos (by omega) ?_))
    rw [rdC, hw, Int.toNat_natCast]
    have hcs := cnt_set s p (by omega) hz
    exact walk_impl o hg h8 out n first R e (s.set p true) (c ++ [(p : Int)]) _ (by rw [List.length_set]; exact hs) hlt (by omega) (by rw [List.length_append, List.length_singleton]; omega) hK
theorem walk_spec (o : List Int) (hg : goodO o) (h8 : o.length ≤ 8) (out : List (List Int)) (n first : Int) (R : List (List Int)) : ∀ (e : Nat) (s : List Bool) (c : List Int) (p : Nat), s.length = o.length → p < o.length → s.count false < e → c.length + e ≤ 1000 →
    Ev (fun k => if out.length < 5864062014805 then spec_ptCycles.l0 k o (out ++ [(cyW o e s c p).2]) (cyW o e s c p).1 n (wrap64 (first + 1)) else none) R →
    Ev (fun k => spec_ptCycles.l1 k o out s c (p : Int) n first) R
 | 0, _, _, _, _, _, h, _, _ => absurd h (Nat.not_lt_zero _)
 | e + 1, s, c, p, hs, hp, hc, hb, hK => by
  refine Ev.step (fun k => by rw [spec_ptCycles.l1]) ?_
  refine evPos (by omega) (evPos (by omega) ?_)
  rw [rdB]
  unfold cyW at hK
  by_cases hz : s.getD p false = true
  · rw [if_pos hz] at hK
    exact evPos hz hK
  · rw [if_neg hz] at hK
    obtain ⟨hw, hlt⟩ := nextP o hg p hp (by omega)
    refine evNeg hz (evPos (by omega) (evPos (by omega) ?_))
    rw [rdC, hw, Int.toNat_natCast]
    have hcs := cnt_set s p (by omega) hz
    exact walk_spec o hg h8 out n first R e (s.set p true) (c ++ [(p : Int)]) _ (by rw [List.length_set]; exact hs) hlt (by omega) (by rw [List.length_append, List.length_singleton]; omega) hK
theorem cyc_impl (o : List Int) (hg : goodO o) (h8 : o.length ≤ 8) : ∀ (e i : Nat) (s : List Bool) (out : List (List Int)), i + e = o.length → s.length = o.length → out.length ≤ i → Ev (fun k => impl_cycles.l0 k o out s (o.length : Int) (i : Int)) (cyA o o.length e i s out)
 | 0, i, s, out, hi, _, _ => by
  refine Ev.step (fun k => by rw [impl_cycles.l0]) ?_
  exact evNeg (by omega) (evSome rfl)
 | e + 1, i, s, out, hi, hs, ho => by
  refine Ev.step (fun k => by rw [impl_cycles.l0]) ?_
  have hcl : s.count false ≤ s.length := List.count_le_length
  refine evPos (by omega) (walk_impl o hg h8 out _ _ _ (o.length + 1) s [] i hs (by omega) (by omega) (by simp; omega) ?_)
  rw [i1o i (by omega)]
  unfold cyA
  by_cases hz : s.getD i false = true
  · rw [if_pos hz]
    have hw : cyW o (o.length + 1) s [] i = (s, []) := by unfold cyW; rw [if_pos hz]
    rw [hw]
    exact evNeg (by simp) (cyc_impl o hg h8 e (i + 1) s out (by omega) hs (by omega))
  · rw [if_neg hz]
    have hge : 1 ≤ (cyW o (o.length + 1) s [] i).2.length := by
      have h := cyW_ge o o.length (s.set i true) ([] ++ [(i : Int)]) ((o.getD i 0).toNat - 1)
      have e1 : cyW o (o.length + 1) s [] i = cyW o o.length (s.set i true) ([] ++ [(i : Int)]) ((o.getD i 0).toNat - 1) := by
        show (if s.getD i false = true then _ else _) = _
        rw [if_neg hz]
      rw [e1]
      exact h
    refine evPos (by omega) (evPos (by omega) ?_)
    exact cyc_impl o hg h8 e (i + 1) _ _ (by omega) (by rw [cyW_slen]; exact hs) (by rw [List.length_append, List.length_singleton]; omega)
theorem cyc_spec (o : List Int) (hg : goodO o) (h8 : o.length ≤ 8) : ∀ (e i : Nat) (s : List Bool) (out : List (List Int)), i + e = o.length → s.length = o.length → out.length ≤ i → Ev (fun k => spec_ptCycles.l0 k o out s (o.length : Int) (i : Int)) (cyA o o.length e i s out)
 | 0, i, s, out, hi, _, _ => by
  refine Ev.step (fun k => by rw [spec_ptCycles.l0]) ?_
  exact evNeg (by omega) (evSome rfl)
 | e + 1, i, s, out, hi, hs, ho => by
  refine Ev.step (fun k => by rw [spec_ptCycles.l0]) ?_
  have hcl : s.count false ≤ s.length := List.count_le_length
  refine evPos (by omega) (evPos (by omega) (evPos (by omega) ?_))
  rw [rdB]
  unfold cyA
  by_cases hz : s.getD i false = true
  · rw [if_pos hz, i1o i (by omega)]
    exact evPos hz (cyc_spec o hg h8 e (i + 1) s out (by omega) hs (by omega))
  · rw [if_neg hz]
    refine evNeg hz (walk_spec o hg h8 out _ _ _ (o.length + 1) s [] i hs (by omega) (by omega) (by simp; omega) ?_)
    rw [i1o i (by omega)]
    refine evPos (by omega) ?_
    exact cyc_spec o hg h8 e (i + 1) _ _ (by omega) (by rw [cyW_slen]; exact hs) (by rw [List.length_append, List.length_singleton]; omega)
theorem totL_app : ∀ (a : List (List Int)) (l : List Int), totL (a ++ [l]) = totL a + l.length
 | [], l => by simp [totL]
 | x :: a, l => by
  show x.length + totL (a ++ [l]) = x.length + totL a + l.length
  rw [totL_app a l]
  omega
theorem cyA_tot (o : List Int) (n : Nat) : ∀ (e i : Nat) (s : List Bool) (out : List (List Int)), totL (cyA o n e i s out) ≤ totL out + e * (n + 1) ∧ (cyA o n e i s out).length ≤ out.length + e
 | 0, _, _, out => ⟨by simp [cyA], by simp [cyA]⟩
 | e + 1, i, s, out => by
  have hmul : (e + 1) * (n + 1) = e * (n + 1) + (n + 1) := Nat.succ_mul e (n + 1)
  unfold cyA
  split
  · obtain ⟨h1, h2⟩ := cyA_tot o n e (i + 1) s out
    exact ⟨by omega, by omega⟩
  · obtain ⟨h1, h2⟩ := cyA_tot o n e (i + 1) (cyW o (n + 1) s [] i).1 (out ++ [(cyW o (n + 1) s [] i).2])
    have h3 := cyW_le o (n + 1) s [] i
    rw [totL_app] at h1
    rw [List.length_append, List.length_singleton] at h2
    rw [List.length_nil, Nat.zero_add] at h3
    exact ⟨by omega, by omega⟩
/-- All cycles of an order. -/
def cycO (o : List Int) : List (List Int) := cyA o o.length o.length 0 (List.replicate o.length false) []
theorem cycO_tot (o : List Int) (h8 : o.length ≤ 8) : totL (cycO o) ≤ 72 ∧ (cycO o).length ≤ 8 := by
  obtain ⟨h1, h2⟩ := cyA_tot o o.length o.length 0 (List.replicate o.length false) []
  have h3 : o.length * (o.length + 1) ≤ 8 * 9 := Nat.mul_le_mul h8 (by omega)
  have h4 : totL ([] : List (List Int)) = 0 := rfl
  have h5 : ([] : List (List Int)).length = 0 := rfl
  unfold cycO
  exact ⟨by omega, by omega⟩
theorem cycles_impl (o : List Int) (hg : goodO o) (h8 : o.length ≤ 8) : Ev (fun k => impl_cycles.f k o) (cycO o) := by
  unfold impl_cycles.f
  rw [Int.toNat_natCast]
  exact evPos (by omega) (evPos (by omega) (cyc_impl o hg h8 o.length 0 _ [] (Nat.zero_add _) (by simp) (Nat.le_refl _)))
theorem cycles_spec (o : List Int) (hg : goodO o) (h8 : o.length ≤ 8) : Ev (fun k => spec_ptCycles.f k o) (cycO o) := by
  unfold spec_ptCycles.f
  rw [Int.toNat_natCast]
  exact evPos (by omega) (evPos (by omega) (cyc_spec o hg h8 o.length 0 _ [] (Nat.zero_add _) (by simp) (Nat.le_refl _)))
end Go.Proofs.Ytfegbmlcbdjcgaa.X
