/- The first swaps: the program's list and the reference's. -/
--! needs LBase LOrd LIntSS LCyc LPerm spec_ptFirst spec_ptSwap impl_swapped impl_FirstSwaps_1 spec_FirstSwaps impl_FirstSwaps
import Derived.Test.YtfegbmlcbdjcgaaX0
import Derived.Test.YtfegbmlcbdjcgaaX3
import Derived.Test.YtfegbmlcbdjcgaaX4
import Derived.Test.YtfegbmlcbdjcgaaX5
import Derived.Test.YtfegbmlcbdjcgaaX6
import Derived.Test.YtfegbmlcbdjcgaaEFirstSwaps
import Derived.Test.YtfegbmlcbdjcgaaLBase
import Derived.Test.YtfegbmlcbdjcgaaLOrd
import Derived.Test.YtfegbmlcbdjcgaaLIntSS
import Derived.Test.YtfegbmlcbdjcgaaLCyc
import Derived.Test.YtfegbmlcbdjcgaaLPerm
namespace Go.Proofs.Ytfegbmlcbdjcgaa.X
open Go.Proofs.Ytfegbmlcbdjcgaa.Sq Go.RowKit Go.Proofs.YtfegbmlcbdjcgaaW.PrintWords Go.Proofs.YtfegbmlcbdjcgaaW.PrintLast Go.Proofs.YtfegbmlcbdjcgaaW.PrintMore
attribute [local go_sem] max2_int min2_int max_two min_two max_three min_three max_four min_four   -- for this text's walks alone
set_option linter.unusedVariables false
set_option linter.unusedSimpArgs false

def swS (o : List Int) (a b : Nat) : List Int := (o.set a (o.getD b 0)).set b (o.getD a 0)
theorem swS_len (o : List Int) (a b : Nat) : (swS o a b).length = o.length := by simp [swS]
theorem getD_setI (s : List Int) (p q : Nat) (v : Int) (hp : p < s.length) : (s.set p v).getD q 0 = if q = p then v else s.getD q 0 := by
  rw [List.getD_eq_getElem?_getD, List.getElem?_set]
  by_cases h : p = q
  · subst h
    simp [hp]
  · rw [if_neg h, if_neg (fun e => h e.symm), List.getD_eq_getElem?_getD]
theorem swS_at (o : List Int) (a b q : Nat) (ha : a < o.length) (hb : b < o.length) : (swS o a b).getD q 0 = if q = b then o.getD a 0 else if q = a then o.getD b 0 else o.getD q 0 := by
  unfold swS
  rw [getD_setI _ b q _ (by rw [List.length_set]; exact hb), getD_setI o a q _ ha]
theorem swS_swS (o : List Int) (a b : Nat) (ha : a < o.length) (hb : b < o.length) (hab : a ≠ b) : swS (swS o a b) a b = o := by
  apply List.ext_getElem?
  intro q
  by_cases hq : q < o.length
  · have h1 : q < (swS (swS o a b) a b).length := by rw [swS_len, swS_len]; exact hq
    rw [List.getElem?_eq_getElem h1, List.getElem?_eq_getElem hq, getElem_getD _ q 0 h1, getElem_getD o q 0 hq]
    rw [swS_at _ a b q (by rw [swS_len]; exact ha) (by rw [swS_len]; exact hb), swS_at o a b a ha hb, swS_at o a b b ha hb, swS_at o a b q ha hb]
    by_cases h2 : q = b
    · subst h2
      rw [if_pos rfl, if_neg hab, if_pos rfl]
    · rw [if_neg h2, if_neg h2, if_pos rfl]
      by_cases h3 : q = a
      · subst h3
        rw [if_pos rfl]
      · rw [if_neg h3, if_neg h3]
  · rw [List.getElem?_eq_none (by rw [swS_len, swS_len]; omega), List.getElem?_eq_none (by omega)]
theorem PO.swS {o : List Int} (h : PO o) {a b : Nat} (ha : a < o.length) (hb : b < o.length) (hab : a ≠ b) : PO (swS o a b) := by
  constructor
  · intro p hp
    rw [swS_len] at hp ⊢
    rw [swS_at o a b p ha hb]
    split
    · exact h.good a ha
    · split
      · exact h.good b hb
      · exact h.good p hp
  · intro p q hp hq he
    rw [swS_len] at hp hq
    rw [swS_at o a b p ha hb, swS_at o a b q ha hb] at he
    by_cases p1 : p = b <;> by_cases p2 : p = a <;> by_cases q1 : q = b <;> by_cases q2 : q = a <;> simp only [p1, p2, q1, q2, if_true, if_false] at he <;> first
      | omega
      | (simp only [*] at * ; have := h.inj _ _ (by omega) (by omega) he; omega)
      | (have := h.inj _ _ (by assumption) (by assumption) he; omega)
      | (rw [if_neg (by omega)] at he; have := h.inj _ _ (by first | assumption | omega) (by first | assumption | omega) he; omega)
theorem nxO_sw (o : List Int) (a b q : Nat) (ha : a < o.length) (hb : b < o.length) : nxO (swS o a b) q = if q = b then nxO o a else if q = a then nxO o b else nxO o q := by
  unfold nxO
  rw [swS_at o a b q ha hb]
  split
  · rfl
  · split <;> rfl
theorem EO_sub (o : List Int) {a b : Nat} (ha : a < o.length) (hb : b < o.length) (hab : a ≠ b) : ∀ x y, EO (swS o a b) x y → mrg (EO o) a b x y := by
  have hM := mrg_eqr (EO.eqr o) a b
  intro x y h
  induction h with
  | edge x hx =>
    rw [swS_len] at hx
    rw [nxO_sw o a b x ha hb]
    by_cases h1 : x = b
    · subst h1
      rw [if_pos rfl]
      exact hM.trans (hM.symm (mrg_ab (EO.eqr o) a x)) (.inl (.edge a ha))
    · rw [if_neg h1]
      by_cases h2 : x = a
      · subst h2
        rw [if_pos rfl]
        exact hM.trans (mrg_ab (EO.eqr o) x b) (.inl (.edge b hb))
      · rw [if_neg h2]
        exact .inl (.edge x hx)
  | refl x => exact hM.refl x
  | symm _ ih => exact hM.symm ih
  | trans _ _ ih ih' => exact hM.trans ih ih'
theorem mrg_same (o : List Int) {a b : Nat} (ha : a < o.length) (hb : b < o.length) (hab : a ≠ b) : mrg (EO (swS o a b)) a b = mrg (EO o) a b := by
  funext x y
  apply propext
  constructor
  · exact mrg_le (mrg_eqr (EO.eqr o) a b) (EO_sub o ha hb hab) (mrg_ab (EO.eqr o) a b)
  · have h := EO_sub (swS o a b) (by rw [swS_len]; exact ha) (by rw [swS_len]; exact hb) hab
    rw [swS_swS o a b ha hb hab] at h
    exact mrg_le (mrg_eqr (EO.eqr _) a b) h (mrg_ab (EO.eqr _) a b)
/-- A swap makes at most one cycle more. -/
theorem cyc_le (o : List Int) (ho : PO o) {a b : Nat} (ha : a < o.length) (hb : b < o.length) (hab : a ≠ b) : (cycO (swS o a b)).length ≤ (cycO o).length + 1 := by
  rw [cycO_cnt o ho, cycO_cnt _ (ho.swS ha hb hab), swS_len]
  have hm := congrArg (cnt o.length) (mrg_same o ha hb hab)
  have h1 : cnt o.length (mrg (EO o) a b) ≤ cnt o.length (EO o) := by
    by_cases h : EO o a b
    · rw [cnt_mrg0 (EO.eqr o) h]; exact Nat.le_refl _
    · rw [cnt_mrg (EO.eqr o) ha hb h]; omega
  have h2 : cnt o.length (EO (swS o a b)) ≤ cnt o.length (mrg (EO (swS o a b)) a b) + 1 := by
    by_cases h : EO (swS o a b) a b
    · rw [cnt_mrg0 (EO.eqr _) h]; omega
    · rw [cnt_mrg (EO.eqr _) ha hb h]; omega
  omega
/-- Where not every boat has a cycle of its own, a swap makes one more. -/
theorem cyc_more (o : List Int) (ho : PO o) (hc : (cycO o).length < o.length) : ∃ a b, a < b ∧ b < o.length ∧ (cycO (swS o a b)).length = (cycO o).length + 1 := by
  have hE := EO.eqr o
  have hp : ∃ p, p < o.length ∧ nxO o p ≠ p := by
    refine Classical.byContradiction (fun hn => ?_)
    have hfix : ∀ p, p < o.length → nxO o p = p := fun p hp => Classical.byContradiction (fun h => hn ⟨p, hp, h⟩)
    have hid : ∀ x y, EO o x y → x = y := by
      intro x y h
      induction h with
      | edge x hx => exact (hfix x hx).symm
      | refl x => rfl
      | symm _ ih => exact ih.symm
      | trans _ _ ih ih' => exact ih.trans ih'
    have : cnt o.length (EO o) = o.length := by
      unfold cnt
      rw [List.countP_eq_length.2 (fun p _ => (leastB_iff _ _).2 (fun q hq hr => by have := hid q p hr; omega)), List.length_range]
    rw [cycO_cnt o ho] at hc
    omega
  obtain ⟨p, hp, hne⟩ := hp
  have hq := ho.lt p hp
  -- p and its next one
  have key : ∀ a b, a < o.length → b < o.length → a ≠ b → EO o a b → ¬ EO (swS o a b) a b → (cycO (swS o a b)).length = (cycO o).length + 1 := by
    intro a b ha hb hab h1 h2
    rw [cycO_cnt o ho, cycO_cnt _ (ho.swS ha hb hab), swS_len, cnt_mrg (EO.eqr _) ha hb h2, mrg_same o ha hb hab, cnt_mrg0 hE h1]
  -- the one that stands alone afterwards
  have alone : ∀ a b z, a < o.length → b < o.length → a ≠ b → z < o.length → nxO (swS o a b) z = z → ∀ x y, EO (swS o a b) x y → (x = z ↔ y = z) := by
    intro a b z ha hb hab hz hf x y h
    induction h with
    | edge x hx =>
      constructor
      · rintro rfl
        exact hf
      · intro e
        exact (ho.swS ha hb hab).nx_inj x z hx (by rw [swS_len]; exact hz) (e.trans hf.symm)
    | refl x => exact Iff.rfl
    | symm _ ih => exact ih.symm
    | trans _ _ ih ih' => exact ih.trans ih'
  rcases Nat.lt_trichotomy p (nxO o p) with hl | hl | hl
  · have hf : nxO (swS o p (nxO o p)) (nxO o p) = nxO o p := by rw [nxO_sw o p (nxO o p) _ hp hq, if_pos rfl]
    refine ⟨p, nxO o p, hl, hq, key _ _ hp hq (by omega) (.edge p hp) (fun h => ?_)⟩
    have := (alone p (nxO o p) (nxO o p) hp hq (by omega) hq hf _ _ h).2 rfl
    omega
  · exact absurd hl.symm hne
  · have hf : nxO (swS o (nxO o p) p) (nxO o p) = nxO o p := by
      rw [nxO_sw o (nxO o p) p _ hq hp, if_neg (by omega), if_pos rfl]
    refine ⟨nxO o p, p, hl, hp, key _ _ hq hp (by omega) (.symm (.edge p hp)) (fun h => ?_)⟩
    have := (alone (nxO o p) p (nxO o p) hq hp (by omega) hq hf _ _ h).1 rfl
    omega
/-! the first one -/
def fB (o : List Int) (a : Nat) : Nat → Nat → Option (Nat × Nat)
 | 0, _ => none
 | e + 1, b => if (cycO o).length < (cycO (swS o a b)).length then some (a, b) else fB o a e (b + 1)
def fA (o : List Int) : Nat → Nat → Option (Nat × Nat)
 | 0, _ => none
 | e + 1, a => match fB o a (o.length - (a + 1)) (a + 1) with | some r => some r | none => fA o e (a + 1)
def fstS (o : List Int) : Option (Nat × Nat) := fA o o.length 0
theorem fB_some (o : List Int) (a : Nat) : ∀ (e b : Nat) (r : Nat × Nat), b + e = o.length → fB o a e b = some r → r.1 = a ∧ b ≤ r.2 ∧ r.2 < o.length ∧ (cycO o).length < (cycO (swS o r.1 r.2)).length
 | 0, _, _, _, h => by simp [fB] at h
 | e + 1, b, r, hb, h => by
  unfold fB at h
  split at h
  · rename_i hc
    obtain rfl := Option.some.inj h
    exact ⟨rfl, Nat.le_refl _, by show b < _; omega, hc⟩
  · obtain ⟨h1, h2, h3, h4⟩ := fB_some o a e (b + 1) r (by omega) h
    exact ⟨h1, by omega, h3, h4⟩
theorem fB_none (o : List Int) (a : Nat) : ∀ (e b : Nat), b + e = o.length → fB o a e b = none → ∀ y, b ≤ y → y < o.length → ¬ (cycO o).length < (cycO (swS o a y)).length
 | 0, _, hb, _, y, h1, h2 => by omega
 | e + 1, b, hb, h, y, h1, h2 => by
  unfold fB at h
  split at h
  · cases h
  · rename_i hc
    by_cases hy : y = b
    · subst hy
      exact hc
    · exact fB_none o a e (b + 1) (by omega) h y (by omega) h2
theorem fA_some (o : List Int) : ∀ (e a : Nat) (r : Nat × Nat), a + e = o.length → fA o e a = some r → r.1 < r.2 ∧ r.2 < o.length ∧ (cycO o).length < (cycO (swS o r.1 r.2)).length
 | 0, _, _, _, h => by simp [fA] at h
 | e + 1, a, r, ha, h => by
  unfold fA at h
  split at h
  · rename_i r' hr
    obtain rfl := Option.some.inj h
    obtain ⟨h1, h2, h3, h4⟩ := fB_some o a _ _ _ (by omega) hr
    exact ⟨by omega, h3, h4⟩
  · exact fA_some o e (a + 1) r (by omega) h
theorem fA_none (o : List Int) : ∀ (e a : Nat), a + e = o.length → fA o e a = none → ∀ x y, a ≤ x → x < y → y < o.length → ¬ (cycO o).length < (cycO (swS o x y)).length
 | 0, _, ha, _, x, y, h1, h2, h3 => by omega
 | e + 1, a, ha, h, x, y, h1, h2, h3 => by
  unfold fA at h
  split at h
  · cases h
  · rename_i hn
    by_cases hx : x = a
    · subst hx
      exact fB_none o x _ _ (by omega) hn y (by omega) h3
    · exact fA_none o e (a + 1) (by omega) h x y (by omega) h2 h3
theorem fst_ex (o : List Int) (ho : PO o) (hc : (cycO o).length < o.length) : ∃ a b, fstS o = some (a, b) ∧ a < b ∧ b < o.length ∧ (cycO (swS o a b)).length = (cycO o).length + 1 := by
  cases hf : fstS o with
  | none =>
    obtain ⟨a, b, h1, h2, h3⟩ := cyc_more o ho hc
    exact absurd (by omega) (fA_none o o.length 0 (Nat.zero_add _) hf a b (Nat.zero_le _) h1 h2)
  | some r =>
    obtain ⟨a, b⟩ := r
    obtain ⟨h1, h2, h3⟩ := fA_some o o.length 0 (a, b) (Nat.zero_add _) hf
    have h4 := cyc_le o ho (a := a) (b := b) (by simp at h1 h2; omega) h2 (by simp at h1; omega)
    exact ⟨a, b, rfl, h1, h2, by simp at h3; omega⟩
theorem fst_no (o : List Int) (ho : PO o) (h8 : o.length ≤ 8) (hc : (cycO o).length = o.length) : fstS o = none := by
  cases hf : fstS o with
  | none => rfl
  | some r =>
    obtain ⟨h1, h2, h3⟩ := fA_some o o.length 0 r (Nat.zero_add _) hf
    obtain ⟨_, h4⟩ := cyA_tot (swS o r.1 r.2) (swS o r.1 r.2).length (swS o r.1 r.2).length 0 (List.replicate (swS o r.1 r.2).length false) []
    have h5 : (cycO (swS o r.1 r.2)).length ≤ 0 + (swS o r.1 r.2).length := h4
    rw [swS_len] at h5
    omega
/-! the two texts -/
theorem swapped_eq (o : List Int) (h8 : o.length ≤ 8) {a b : Nat} (ha : a < o.length) (hb : b < o.length) : impl_swapped.f o a b = some (swS o a b) := by
  have hcl : slices_Clone_int.f o = some o := by
    unfold slices_Clone_int.f
    simp only [Option.bind_some, List.nil_append, List.length_nil, Nat.zero_add]
    exact if_pos (by omega)
  unfold impl_swapped.f
  rw [hcl, Option.bind_some, if_pos (by omega), if_pos (by omega), if_pos (by omega), if_pos (by omega), Int.toNat_natCast, Int.toNat_natCast, rdC, rdC]
  rfl
theorem ptSwap_eq (o : List Int) (h8 : o.length ≤ 8) {a b : Nat} (ha : a < o.length) (hb : b < o.length) : spec_ptSwap.f o a b = some (swS o a b) := by
  have hcl : spec_l1Own.f o = some o := by
    unfold spec_l1Own.f
    simp only [Option.bind_some, List.nil_append, List.length_nil, Nat.zero_add]
    exact if_pos (by omega)
  unfold spec_ptSwap.f
  rw [hcl, Option.bind_some, if_pos (by omega), if_pos (by omega), if_pos (by omega), if_pos (by omega), if_pos (by omega), if_pos (by omega), Int.toNat_natCast, Int.toNat_natCast, rdC, rdC]
  rfl
theorem find_impl (o : List Int) (ho : PO o) (h8 : o.length ≤ 8) : ∀ (e a : Nat), a + e = o.length → Ev (fun k => impl_FirstSwaps_1.l0 k (o.length : Int) (a : Int) o) (match fA o e a with | some r => ((r.1 : Int), (r.2 : Int), true) | none => (0, 0, false))
 | 0, a, ha => by
  refine Ev.step (fun k => by rw [impl_FirstSwaps_1.l0]) ?_
  exact evNeg (by omega) (evSome rfl)
 | e + 1, a, ha => by
  refine Ev.step (fun k => by rw [impl_FirstSwaps_1.l0]) ?_
  refine evPos (by omega) ?_
  rw [i1o a (by omega)]
  have hB : ∀ (d b : Nat), b + d = o.length → a < b → Ev (fun k => impl_FirstSwaps_1.l1 k (a : Int) (b : Int) (o.length : Int) (a : Int) o) (match (match fB o a d b with | some r => some r | none => fA o e (a + 1)) with | some r => ((r.1 : Int), (r.2 : Int), true) | none => (0, 0, false)) := by
    intro d
    induction d with
    | zero =>
      intro b hb _
      refine Ev.step (fun k => by rw [impl_FirstSwaps_1.l1]) ?_
      rw [i1o a (by omega)]
      exact evNeg (by omega) (find_impl o ho h8 e (a + 1) (by omega))
    | succ d ih =>
      intro b hb hab
      refine Ev.step (fun k => by rw [impl_FirstSwaps_1.l1]) ?_
      refine evPos (by omega) (evBind0 (swapped_eq o h8 (by omega) (by omega)) (Ev.bind (cycles_impl (swS o a b) (ho.swS (by omega) (by omega) (by omega)).good (by rw [swS_len]; exact h8)) (Ev.bind (cycles_impl o ho.good h8) ?_)))
      unfold fB
      by_cases hc : (cycO o).length < (cycO (swS o a b)).length
      · rw [if_pos hc]
        exact evPos (by omega) (evSome rfl)
      · rw [if_neg hc, i1o b (by omega)]
        exact evNeg (by omega) (ih (b + 1) (by omega) (by omega))
  exact hB (o.length - (a + 1)) (a + 1) (by omega) (by omega)
theorem find_spec (o : List Int) (ho : PO o) (h8 : o.length ≤ 8) (r : Nat × Nat) : ∀ (e a : Nat), a + e = o.length → fA o e a = some r → Ev (fun k => spec_ptFirst.l0 k o (o.length : Int) (a : Int)) [(r.1 : Int), (r.2 : Int)]
 | 0, a, ha, hf => by simp [fA] at hf
 | e + 1, a, ha, hf => by
  refine Ev.step (fun k => by rw [spec_ptFirst.l0]) ?_
  refine evPos (by omega) ?_
  rw [i1o a (by omega)]
  have hB : ∀ (d b : Nat), b + d = o.length → a < b → (match fB o a d b with | some r => some r | none => fA o e (a + 1)) = some r → Ev (fun k => spec_ptFirst.l1 k o (a : Int) (b : Int) (o.length : Int) (a : Int)) [(r.1 : Int), (r.2 : Int)] := by
    intro d
    induction d with
    | zero =>
      intro b hb _ hr
      refine Ev.step (fun k => by rw [spec_ptFirst.l1]) ?_
      rw [i1o a (by omega)]
      exact evNeg (by omega) (find_spec o ho h8 r e (a + 1) (by omega) hr)
    | succ d ih =>
      intro b hb hab hr
      refine Ev.step (fun k => by rw [spec_ptFirst.l1]) ?_
      refine evPos (by omega) (evBind0 (ptSwap_eq o h8 (by omega) (by omega)) (Ev.bind (cycles_spec (swS o a b) (ho.swS (by omega) (by omega) (by omega)).good (by rw [swS_len]; exact h8)) (Ev.bind (cycles_spec o ho.good h8) ?_)))
      unfold fB at hr
      by_cases hc : (cycO o).length < (cycO (swS o a b)).length
      · rw [if_pos hc] at hr
        obtain rfl := Option.some.inj hr
        exact evPos (by omega) (evSome rfl)
      · rw [if_neg hc] at hr
        rw [i1o b (by omega)]
        exact evNeg (by omega) (ih (b + 1) (by omega) (by omega) hr)
  exact hB (o.length - (a + 1)) (a + 1) (by omega) (by omega) hf
/-- The list of the first swaps. -/
def swL : Nat → List Int → List (List Int) → List (List Int)
 | 0, _, out => out
 | e + 1, o, out => match fstS o with | some r => swL e (swS o r.1 r.2) (out ++ [[(r.1 : Int), (r.2 : Int)]]) | none => out
theorem swL_tot : ∀ (e : Nat) (o : List Int) (out : List (List Int)), totL (swL e o out) ≤ totL out + e * 2 ∧ (swL e o out).length ≤ out.length + e
 | 0, _, _ => ⟨Nat.le_refl _, Nat.le_refl _⟩
 | e + 1, o, out => by
  unfold swL
  split
  · rename_i r _
    obtain ⟨h1, h2⟩ := swL_tot e (swS o r.1 r.2) (out ++ [[(r.1 : Int), (r.2 : Int)]])
    rw [totL_app] at h1
    rw [List.length_append, List.length_singleton] at h2
    have h3 : ([(r.1 : Int), (r.2 : Int)] : List Int).length = 2 := rfl
    exact ⟨by omega, by omega⟩
  · exact ⟨by omega, by omega⟩
theorem loop_impl : ∀ (e : Nat) (o : List Int) (out : List (List Int)), PO o → o.length ≤ 8 → (cycO o).length + e = o.length → out.length + e ≤ 1000 → Ev (fun k => impl_FirstSwaps.l0 k out o) (swL e o out, true)
 | 0, o, out, ho, h8, hc, hl => by
  refine Ev.step (fun k => by rw [impl_FirstSwaps.l0]) ?_
  have hf := find_impl o ho h8 o.length 0 (Nat.zero_add _)
  have hn : fA o o.length 0 = none := fst_no o ho h8 (by omega)
  rw [hn] at hf
  exact Ev.bind hf (evNeg (by simp) (evSome rfl))
 | e + 1, o, out, ho, h8, hc, hl => by
  refine Ev.step (fun k => by rw [impl_FirstSwaps.l0]) ?_
  obtain ⟨a, b, h1, h2, h3, h4⟩ := fst_ex o ho (by omega)
  have hf := find_impl o ho h8 o.length 0 (Nat.zero_add _)
  have hn : fA o o.length 0 = some (a, b) := h1
  rw [hn] at hf
  have hw := loop_impl e (swS o a b) (out ++ [[(a : Int), (b : Int)]]) (ho.swS (by omega) h3 (by omega)) (by rw [swS_len]; exact h8) (by rw [swS_len]; omega) (by rw [List.length_append, List.length_singleton]; omega)
  unfold swL
  rw [h1]
  exact Ev.bind hf (evPos rfl (evPos (by omega) (evBind0 (swapped_eq o h8 (by omega) h3) hw)))
theorem loop_spec : ∀ (e : Nat) (o : List Int) (out : List (List Int)), PO o → o.length ≤ 8 → (cycO o).length + e = o.length → out.length + e ≤ 1000 → Ev (fun k => spec_FirstSwaps.l0 k out o (e : Int)) (swL e o out, true)
 | 0, o, out, ho, h8, hc, hl => by
  refine Ev.step (fun k => by rw [spec_FirstSwaps.l0]) ?_
  exact evNeg (by omega) (evSome rfl)
 | e + 1, o, out, ho, h8, hc, hl => by
  refine Ev.step (fun k => by rw [spec_FirstSwaps.l0]) ?_
  obtain ⟨a, b, h1, h2, h3, h4⟩ := fst_ex o ho (by omega)
  have hf : Ev (fun k => spec_ptFirst.f k o) [(a : Int), (b : Int)] := by
    unfold spec_ptFirst.f
    exact find_spec o ho h8 (a, b) o.length 0 (Nat.zero_add _) h1
  have hw := loop_spec e (swS o a b) (out ++ [[(a : Int), (b : Int)]]) (ho.swS (by omega) h3 (by omega)) (by rw [swS_len]; exact h8) (by rw [swS_len]; omega) (by rw [List.length_append, List.length_singleton]; omega)
  unfold swL
  rw [h1]
  have hn : wrap64 (((out ++ [[(a : Int), (b : Int)]]).length : Int) - 1) = ((out.length : Nat) : Int) := by
    rw [List.length_append, List.length_singleton]
    exact (w64 (by omega) (by omega)).trans (by omega)
  have hr : rd_L1 (out ++ [[(a : Int), (b : Int)]]) ((out.length : Nat) : Int) = [(a : Int), (b : Int)] := by
    unfold rd_L1
    rw [Int.toNat_natCast]
    exact rdL_mid out [] _
  have hx : wrap64 (((e + 1 : Nat) : Int) - 1) = ((e : Nat) : Int) := (w64 (by omega) (by omega)).trans (by omega)
  have r0 : rd [(a : Int), (b : Int)] 0 = (a : Int) := rfl
  have r1 : rd [(a : Int), (b : Int)] 1 = (b : Int) := rfl
  refine evPos (by omega) (Ev.bind hf (evPos (by omega) (evBind0 rfl ?_)))
  rw [hn, hr, hx, r0, r1]
  exact evPos (by omega) (evPos (by rw [List.length_append, List.length_singleton]; omega) (evPos (by simp) (evPos (by simp) (evBind0 (ptSwap_eq o h8 (by omega) h3) hw))))
theorem ordB_PO (o : List Int) (h : ordB o = true) : PO o := by
  refine ⟨ordB_good o h, fun p q hp hq he => ?_⟩
  unfold ordB at h
  simp only [Bool.and_eq_true, decide_eq_true_eq] at h
  have hn := ((iso_iff o).1 h.1).2
  rw [← getElem_getD o p 0 hp, ← getElem_getD o q 0 hq] at he
  exact (List.getElem_inj hn).1 he
end Go.Proofs.Ytfegbmlcbdjcgaa.X
