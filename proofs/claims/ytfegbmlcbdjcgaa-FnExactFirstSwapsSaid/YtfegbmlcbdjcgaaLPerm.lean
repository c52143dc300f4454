/- How many cycles there are: a swap makes one more, or one less. -/
--! needs LBase LOrd LIntSS LCyc spec_ptCycles impl_cycles
import Derived.Test.YtfegbmlcbdjcgaaX0
import Derived.Test.YtfegbmlcbdjcgaaLCyc
namespace Go.Proofs.Ytfegbmlcbdjcgaa.X
open Go.Proofs.Ytfegbmlcbdjcgaa.Sq Go.RowKit Go.Proofs.YtfegbmlcbdjcgaaW.PrintWords Go.Proofs.YtfegbmlcbdjcgaaW.PrintLast Go.Proofs.YtfegbmlcbdjcgaaW.PrintMore
attribute [local go_sem] max2_int min2_int max_two min_two max_three min_three max_four min_four   -- for this text's walks alone
set_option linter.unusedVariables false
set_option linter.unusedSimpArgs false

inductive Rel (n : Nat) (f : Nat → Nat) : Nat → Nat → Prop
 | edge (x : Nat) (h : x < n) : Rel n f x (f x)
 | refl (x : Nat) : Rel n f x x
 | symm {x y : Nat} (h : Rel n f x y) : Rel n f y x
 | trans {x y z : Nat} (h : Rel n f x y) (h' : Rel n f y z) : Rel n f x z
structure EqR (R : Nat → Nat → Prop) : Prop where
  refl : ∀ x, R x x
  symm : ∀ {x y}, R x y → R y x
  trans : ∀ {x y z}, R x y → R y z → R x z
theorem Rel.eqr (n : Nat) (f : Nat → Nat) : EqR (Rel n f) := ⟨.refl, .symm, .trans⟩
def mrg (R : Nat → Nat → Prop) (a b x y : Nat) : Prop := R x y ∨ (R x a ∧ R b y) ∨ (R x b ∧ R a y)
theorem mrg_ab {R : Nat → Nat → Prop} (h : EqR R) (a b : Nat) : mrg R a b a b := .inr (.inl ⟨h.refl a, h.refl b⟩)
theorem mrg_le {R S : Nat → Nat → Prop} (h : EqR S) (hR : ∀ x y, R x y → S x y) {a b : Nat} (hab : S a b) {x y : Nat} (hm : mrg R a b x y) : S x y := by
  rcases hm with h1 | ⟨h1, h2⟩ | ⟨h1, h2⟩
  · exact hR _ _ h1
  · exact h.trans (hR _ _ h1) (h.trans hab (hR _ _ h2))
  · exact h.trans (hR _ _ h1) (h.trans (h.symm hab) (hR _ _ h2))
theorem mrg_eqr {R : Nat → Nat → Prop} (h : EqR R) (a b : Nat) : EqR (mrg R a b) := by
  have hs : ∀ {x y}, mrg R a b x y → mrg R a b y x := by
    intro x y hm
    rcases hm with h1 | ⟨h1, h2⟩ | ⟨h1, h2⟩
    · exact .inl (h.symm h1)
    · exact .inr (.inr ⟨h.symm h2, h.symm h1⟩)
    · exact .inr (.inl ⟨h.symm h2, h.symm h1⟩)
  refine ⟨fun x => .inl (h.refl x), hs, ?_⟩
  intro x y z hm hm'
  rcases hm with h1 | ⟨h1, h2⟩ | ⟨h1, h2⟩ <;> rcases hm' with g1 | ⟨g1, g2⟩ | ⟨g1, g2⟩
  · exact .inl (h.trans h1 g1)
  · exact .inr (.inl ⟨h.trans h1 g1, g2⟩)
  · exact .inr (.inr ⟨h.trans h1 g1, g2⟩)
  · exact .inr (.inl ⟨h1, h.trans h2 g1⟩)
  · exact .inr (.inl ⟨h1, g2⟩)
  · exact .inl (h.trans h1 g2)
  · exact .inr (.inr ⟨h1, h.trans h2 g1⟩)
  · exact .inl (h.trans h1 g2)
  · exact .inr (.inr ⟨h1, g2⟩)
open Classical in
noncomputable def leastB (R : Nat → Nat → Prop) (p : Nat) : Bool := decide (∀ q, q < p → ¬ R q p)
theorem leastB_iff (R : Nat → Nat → Prop) (p : Nat) : leastB R p = true ↔ ∀ q, q < p → ¬ R q p := by unfold leastB; simp
noncomputable def cnt (n : Nat) (R : Nat → Nat → Prop) : Nat := (List.range n).countP (leastB R)
theorem least_ex {R : Nat → Nat → Prop} (h : EqR R) (a : Nat) : ∃ m, m ≤ a ∧ R m a ∧ leastB R m = true := by
  induction a using Nat.strongRecOn with
  | _ a ih =>
    by_cases hl : leastB R a = true
    · exact ⟨a, Nat.le_refl _, h.refl a, hl⟩
    · rw [leastB_iff] at hl
      obtain ⟨q, hq⟩ := Classical.not_forall.1 hl
      obtain ⟨hq1, hq2⟩ := Classical.not_imp.1 hq
      obtain ⟨m, h1, h2, h3⟩ := ih q hq1
      exact ⟨m, by omega, h.trans h2 (Classical.not_not.1 hq2), h3⟩
theorem least_uniq {R : Nat → Nat → Prop} (h : EqR R) {p m : Nat} (hp : leastB R p = true) (hm : leastB R m = true) (hr : R p m) : p = m := by
  rcases Nat.lt_trichotomy p m with h1 | h1 | h1
  · exact absurd hr ((leastB_iff R m).1 hm p h1)
  · exact h1
  · exact absurd (h.symm hr) ((leastB_iff R p).1 hp m h1)
theorem countP_one (P Q : Nat → Bool) (m : Nat) (hP : P m = true) (hQ : Q m = false) : ∀ n, m < n → (∀ p, p < n → p ≠ m → P p = Q p) → (List.range n).countP P = (List.range n).countP Q + 1
 | 0, h, _ => absurd h (Nat.not_lt_zero _)
 | n + 1, h, he => by
  rw [List.range_succ, List.countP_append, List.countP_append, List.countP_singleton, List.countP_singleton]
  by_cases hn : m = n
  · subst hn
    rw [hP, hQ]
    have : (List.range m).countP P = (List.range m).countP Q := List.countP_congr (fun p hp => by
      have := List.mem_range.1 hp
      rw [he p (by omega) (by omega)])
    simp [this]
  · have := countP_one P Q m hP hQ n (by omega) (fun p hp hne => he p (by omega) hne)
    rw [he n (by omega) (fun e => hn e.symm)]
    omega
theorem cnt_mrg_lt {R : Nat → Nat → Prop} (h : EqR R) {n a b ma mb : Nat} (hab : ¬ R a b) (hb : b < n) (hma : R ma a) (hla : leastB R ma = true) (hmb : R mb b) (hlb : leastB R mb = true) (hle : mb ≤ b) (hlt : ma < mb) : cnt n R = cnt n (mrg R a b) + 1 := by
  have hsub : ∀ p, leastB (mrg R a b) p = true ↔ leastB R p = true ∧ p ≠ mb := by
    intro p
    constructor
    · intro hp
      rw [leastB_iff] at hp
      refine ⟨(leastB_iff R p).2 (fun q hq hr => hp q hq (.inl hr)), ?_⟩
      rintro rfl
      exact hp ma hlt (.inr (.inl ⟨hma, h.symm hmb⟩))
    · rintro ⟨hp, hne⟩
      rw [leastB_iff]
      intro q hq hr
      rcases hr with h1 | ⟨h1, h2⟩ | ⟨h1, h2⟩
      · exact (leastB_iff R p).1 hp q hq h1
      · exact hne (least_uniq h hp hlb (h.trans (h.symm h2) (h.symm hmb)))
      · have hpm := least_uniq h hp hla (h.trans (h.symm h2) (h.symm hma))
        exact (leastB_iff R mb).1 hlb q (by omega) (h.trans h1 (h.symm hmb))
  unfold cnt
  refine countP_one _ _ mb hlb ?_ n (by omega) (fun p _ hne => ?_)
  · cases hz : leastB (mrg R a b) mb with
    | false => rfl
    | true => exact absurd rfl ((hsub mb).1 hz).2
  · cases hz : leastB (mrg R a b) p with
    | true => exact ((hsub p).1 hz).1
    | false =>
      cases hy : leastB R p with
      | false => rfl
      | true =>
        rw [(hsub p).2 ⟨hy, hne⟩] at hz
        cases hz
theorem mrg_comm (R : Nat → Nat → Prop) (a b : Nat) : mrg R a b = mrg R b a := by
  funext x y
  apply propext
  unfold mrg
  constructor
  · rintro (h | h | h)
    · exact .inl h
    · exact .inr (.inr h)
    · exact .inr (.inl h)
  · rintro (h | h | h)
    · exact .inl h
    · exact .inr (.inr h)
    · exact .inr (.inl h)
theorem cnt_mrg {R : Nat → Nat → Prop} (h : EqR R) {n a b : Nat} (ha : a < n) (hb : b < n) (hab : ¬ R a b) : cnt n R = cnt n (mrg R a b) + 1 := by
  obtain ⟨ma, h1, h2, h3⟩ := least_ex h a
  obtain ⟨mb, g1, g2, g3⟩ := least_ex h b
  rcases Nat.lt_trichotomy ma mb with hl | hl | hl
  · exact cnt_mrg_lt h hab hb h2 h3 g2 g3 g1 hl
  · subst hl
    exact absurd (h.trans (h.symm h2) g2) hab
  · rw [mrg_comm]
    exact cnt_mrg_lt h (fun hr => hab (h.symm hr)) ha g2 g3 h2 h3 h1 hl
theorem cnt_mrg0 {R : Nat → Nat → Prop} (h : EqR R) {n a b : Nat} (hab : R a b) : cnt n (mrg R a b) = cnt n R := by
  have : mrg R a b = R := by
    funext x y
    exact propext ⟨mrg_le h (fun _ _ h => h) hab, .inl⟩
  rw [this]
/-! pigeons -/
theorem pig : ∀ (l1 l2 : List Nat), l1.Nodup → (∀ x ∈ l1, x ∈ l2) → l2.length ≤ l1.length → ∀ x ∈ l2, x ∈ l1
 | [], l2, _, _, hl, x, hx => by
  have : l2 = [] := List.eq_nil_of_length_eq_zero (by simpa using hl)
  subst this
  exact hx
 | a :: l1, l2, hn, hs, hl, x, hx => by
  obtain ⟨hn1, hn2⟩ := List.nodup_cons.1 hn
  have ha : a ∈ l2 := hs a (List.mem_cons_self ..)
  have hlen := List.length_erase_of_mem ha
  have h0 : 0 < l2.length := List.length_pos_of_mem ha
  have hi := pig l1 (l2.erase a) hn2 (fun y hy => by
    have hne : y ≠ a := fun e => hn1 (e ▸ hy)
    exact (List.mem_erase_of_ne hne).2 (hs y (List.mem_cons_of_mem _ hy))) (by simp only [List.length_cons] at hl; omega)
  by_cases hxa : x = a
  · subst hxa
    exact List.mem_cons_self ..
  · exact List.mem_cons_of_mem _ (hi x ((List.mem_erase_of_ne hxa).2 hx))
theorem back_closed (n : Nat) (f : Nat → Nat) (hf : ∀ p, p < n → f p < n) (hi : ∀ p q, p < n → q < n → f p = f q → p = q) (S : Nat → Bool) (hS : ∀ p, p < n → S p = true → S (f p) = true) : ∀ p, p < n → S (f p) = true → S p = true := by
  intro p hp hsp
  have hmem : ∀ q, q ∈ (List.range n).filter S ↔ q < n ∧ S q = true := fun q => by rw [List.mem_filter, List.mem_range]
  have hnd : ((List.range n).filter S).Nodup := List.nodup_range.filter _
  have hm : (((List.range n).filter S).map f).Nodup := by
    unfold List.Nodup
    rw [List.pairwise_map]
    exact List.Pairwise.imp_of_mem (fun {a b} ha hb hne he => hne (hi a b ((hmem a).1 ha).1 ((hmem b).1 hb).1 he)) hnd
  have := pig _ ((List.range n).filter S) hm (fun x hx => by
    obtain ⟨q, hq, rfl⟩ := List.mem_map.1 hx
    obtain ⟨h1, h2⟩ := (hmem q).1 hq
    exact (hmem _).2 ⟨hf q h1, hS q h1 h2⟩) (by rw [List.length_map]; exact Nat.le_refl _) (f p) ((hmem _).2 ⟨hf p hp, hsp⟩)
  obtain ⟨q, hq, he⟩ := List.mem_map.1 this
  obtain ⟨h1, h2⟩ := (hmem q).1 hq
  rw [hi p q hp h1 he.symm]
  exact h2
/-! the walk -/
def nxO (o : List Int) (p : Nat) : Nat := (o.getD p 0).toNat - 1
structure PO (o : List Int) : Prop where
  good : goodO o
  inj : ∀ p q, p < o.length → q < o.length → o.getD p 0 = o.getD q 0 → p = q
theorem PO.lt {o : List Int} (h : PO o) (p : Nat) (hp : p < o.length) : nxO o p < o.length := by
  obtain ⟨h1, h2⟩ := h.good p hp
  unfold nxO
  omega
theorem PO.nx_inj {o : List Int} (h : PO o) (p q : Nat) (hp : p < o.length) (hq : q < o.length) (he : nxO o p = nxO o q) : p = q := by
  obtain ⟨h1, h2⟩ := h.good p hp
  obtain ⟨g1, g2⟩ := h.good q hq
  unfold nxO at he
  exact h.inj p q hp hq (by omega)
def EO (o : List Int) : Nat → Nat → Prop := Rel o.length (nxO o)
theorem EO.eqr (o : List Int) : EqR (EO o) := Rel.eqr _ _
theorem getD_setT (s : List Bool) (p q : Nat) (hp : p < s.length) : (s.set p true).getD q false = if q = p then true else s.getD q false := by
  rw [List.getD_eq_getElem?_getD, List.getElem?_set]
  by_cases h : p = q
  · subst h
    simp [hp]
  · rw [if_neg h, if_neg (fun e => h e.symm), List.getD_eq_getElem?_getD]
theorem cyW_inv (o : List Int) (ho : PO o) (i : Nat) : ∀ (e : Nat) (s : List Bool) (c : List Int) (p : Nat), s.length = o.length → p < o.length → s.count false < e → EO o i p → (∀ q, q < o.length → s.getD q false = true → s.getD (nxO o q) false = true ∨ nxO o q = p) →
    (∀ q, s.getD q false = true → (cyW o e s c p).1.getD q false = true) ∧ (∀ q, (cyW o e s c p).1.getD q false = true → s.getD q false = true ∨ EO o i q) ∧ (cyW o e s c p).1.getD p false = true ∧ (∀ q, q < o.length → (cyW o e s c p).1.getD q false = true → (cyW o e s c p).1.getD (nxO o q) false = true)
 | 0, _, _, _, _, _, h, _, _ => absurd h (Nat.not_lt_zero _)
 | e + 1, s, c, p, hs, hp, hc, hE, hF => by
  unfold cyW
  by_cases hz : s.getD p false = true
  · rw [if_pos hz]
    refine ⟨fun _ h => h, fun _ h => .inl h, hz, fun q hq h => ?_⟩
    rcases hF q hq h with h1 | h1
    · exact h1
    · show s.getD (nxO o q) false = true
      rw [h1]
      exact hz
  · rw [if_neg hz]
    have hcs := cnt_set s p (by omega) hz
    have hg := fun q => getD_setT s p q (by omega)
    obtain ⟨r1, r2, r3, r4⟩ := cyW_inv o ho i e (s.set p true) (c ++ [(p : Int)]) (nxO o p) (by rw [List.length_set]; exact hs) (ho.lt p hp) (by omega) (.trans hE (.edge p hp)) (fun q hq h => by
      rw [hg q] at h
      by_cases hqp : q = p
      · subst hqp
        exact .inr rfl
      · rw [if_neg hqp] at h
        rw [hg (nxO o q)]
        rcases hF q hq h with h1 | h1
        · by_cases h2 : nxO o q = p
          · exact .inl (if_pos h2)
          · rw [if_neg h2]
            exact .inl h1
        · exact .inl (if_pos h1))
    refine ⟨fun q h => r1 q ?_, fun q h => ?_, r1 p ?_, r4⟩
    · rw [hg q]
      split
      · rfl
      · exact h
    · rcases r2 q h with h1 | h1
      · rw [hg q] at h1
        by_cases hqp : q = p
        · subst hqp
          exact .inr hE
        · rw [if_neg hqp] at h1
          exact .inl h1
      · exact .inr h1
    · rw [hg p, if_pos rfl]
theorem cyA_cnt (o : List Int) (ho : PO o) : ∀ (e i : Nat) (s : List Bool) (out : List (List Int)), i + e = o.length → s.length = o.length → (∀ p, p < o.length → (s.getD p false = true ↔ ∃ q, q < i ∧ EO o q p)) →
    (cyA o o.length e i s out).length = out.length + (List.range' i e).countP (leastB (EO o))
 | 0, _, _, out, _, _, _ => rfl
 | e + 1, i, s, out, hi, hs, hI => by
  have hE := EO.eqr o
  rw [List.range'_succ, List.countP_cons]
  unfold cyA
  by_cases hz : s.getD i false = true
  · rw [if_pos hz]
    obtain ⟨q, hq, hqi⟩ := (hI i (by omega)).1 hz
    have hl : leastB (EO o) i = false := by
      cases hl : leastB (EO o) i with
      | false => rfl
      | true => exact absurd hqi ((leastB_iff _ _).1 hl q hq)
    rw [cyA_cnt o ho e (i + 1) s out (by omega) hs (fun p hp => ⟨fun h => by
      obtain ⟨x, hx, hxp⟩ := (hI p hp).1 h
      exact ⟨x, by omega, hxp⟩, fun ⟨x, hx, hxp⟩ => by
      by_cases hxi : x = i
      · subst hxi
        exact (hI p hp).2 ⟨q, hq, hE.trans hqi hxp⟩
      · exact (hI p hp).2 ⟨x, by omega, hxp⟩⟩), hl]
    simp
  · rw [if_neg hz]
    have hl : leastB (EO o) i = true := (leastB_iff _ _).2 (fun q hq hr => hz ((hI i (by omega)).2 ⟨q, hq, hr⟩))
    have hcl : s.count false ≤ s.length := List.count_le_length
    obtain ⟨r1, r2, r3, r4⟩ := cyW_inv o ho i (o.length + 1) s [] i hs (by omega) (by omega) (.refl i) (fun q hq h => by
      obtain ⟨x, hx, hxq⟩ := (hI q hq).1 h
      exact .inl ((hI _ (ho.lt q hq)).2 ⟨x, hx, hE.trans hxq (.edge q hq)⟩))
    have hback := back_closed o.length (nxO o) ho.lt ho.nx_inj (fun q => (cyW o (o.length + 1) s [] i).1.getD q false) r4
    have hcls : ∀ x y, EO o x y → ((cyW o (o.length + 1) s [] i).1.getD x false = true ↔ (cyW o (o.length + 1) s [] i).1.getD y false = true) := by
      intro x y hxy
      induction hxy with
      | edge x hx => exact ⟨r4 x hx, hback x hx⟩
      | refl x => exact Iff.rfl
      | symm _ ih => exact ih.symm
      | trans _ _ ih ih' => exact ih.trans ih'
    rw [cyA_cnt o ho e (i + 1) _ _ (by omega) (by rw [cyW_slen]; exact hs) (fun p hp => ⟨fun h => by
      rcases r2 p h with h1 | h1
      · obtain ⟨x, hx, hxp⟩ := (hI p hp).1 h1
        exact ⟨x, by omega, hxp⟩
      · exact ⟨i, by omega, h1⟩, fun ⟨x, hx, hxp⟩ => by
      by_cases hxi : x = i
      · subst hxi
        exact (hcls x p hxp).1 r3
      · exact r1 p ((hI p hp).2 ⟨x, by omega, hxp⟩)⟩), hl, List.length_append, List.length_singleton]
    simp
    omega
theorem cycO_cnt (o : List Int) (ho : PO o) : (cycO o).length = cnt o.length (EO o) := by
  unfold cycO cnt
  rw [cyA_cnt o ho o.length 0 _ [] (Nat.zero_add _) (by simp) (fun p hp => ⟨fun h => by
    rw [List.getD_eq_getElem?_getD, List.getElem?_replicate] at h
    split at h <;> simp at h, fun ⟨x, hx, _⟩ => absurd hx (Nat.not_lt_zero _)⟩), List.range_eq_range']
  simp
end Go.Proofs.Ytfegbmlcbdjcgaa.X
