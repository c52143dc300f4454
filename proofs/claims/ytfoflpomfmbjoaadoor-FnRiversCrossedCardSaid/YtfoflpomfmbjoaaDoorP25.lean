import Derived.Test.YtfoflpomfmbjoaaDoorP1
import Derived.Test.YtfoflpomfmbjoaaDoorP4
import Derived.Test.YtfoflpomfmbjoaaDoorP5
import Derived.Test.YtfoflpomfmbjoaaDoorP6
import Derived.Test.YtfoflpomfmbjoaaDoorP13
import Derived.Test.YtfoflpomfmbjoaaDoorP15
import Derived.Test.YtfoflpomfmbjoaaDoorP17
import Derived.Test.YtfoflpomfmbjoaaDoorP18
import Derived.Test.YtfoflpomfmbjoaaDoorP23
import Derived.Test.YtfoflpomfmbjoaaDoorP24
import Derived.ChangeArms
import Derived.Deep.Slices
import Derived.WideShapes
import Derived.Carry
section
namespace Go.Proofs.YtfoflpomfmbjoaaDoor.X
open Go.Proofs.YtfoflpomfmbjoaaDoor.Sq Go.RowKit Go.Proofs.YtfoflpomfmbjoaaDoorW.PrintWords Go.Proofs.YtfoflpomfmbjoaaDoorW.PrintLast Go.Proofs.YtfoflpomfmbjoaaDoorW.PrintMore
attribute [local go_sem] max2_int min2_int max_two min_two max_three min_three max_four min_four   -- for this text's walks alone
set_option linter.unusedVariables false
set_option linter.unusedSimpArgs false
def ccF (v : Int) : Int × Bool := if v > 1000000000000000 then (0, false) else (v, true)
theorem ccF_ev (v : Int) : Ev (fun _ => if v > 1000000000000000 then some ((0 : Int), false) else some (v, true)) (ccF v) := by
  unfold ccF
  split
  · rename_i h; exact evSome rfl
  · rename_i h; exact evSome rfl
theorem rdK (l : List Int) (i : Nat) : rd l (i : Int) = l.getD i 0 := by unfold rd; rw [Int.toNat_natCast]
theorem sum_pos : ∀ (L : List Int), (∀ x ∈ L, 0 ≤ x ∧ x ≤ capI) → 0 ≤ L.sum
 | [], _ => by simp
 | x :: t, h => by
  have h1 := sum_pos t (fun y hy => h y (List.mem_cons_of_mem _ hy))
  have h2 := h x List.mem_cons_self
  rw [List.sum_cons]
  omega
theorem mn_mn (x y : Int) (h : 0 ≤ y) : mn (mn x 1000000000000001 + y) 1000000000000001 = mn (x + y) 1000000000000001 := by
  unfold mn
  repeat' split
  all_goals omega
theorem mn_at (x : Int) (h : 0 ≤ x) : 0 ≤ mn x 1000000000000001 ∧ mn x 1000000000000001 ≤ 1000000000000001 := by
  unfold mn
  split <;> omega
theorem cc_impl (L : List Int) (hL : ∀ x ∈ L, 0 ≤ x ∧ x ≤ capI) (hl : L.length ≤ 1000) : ∀ (e i : Nat) (s : Int), i + e = L.length → 0 ≤ s → s ≤ capI → Ev (fun k => impl_CountCrossings.l0 k s L (L.length : Int) (i : Int)) (ccF (mn (s + (L.drop i).sum) 1000000000000001)) := by
  intro e
  induction e with
  | zero =>
    intro i s hi h0 h1; refine Ev.step (fun k => by rw [impl_CountCrossings.l0]) (evNeg (by omega) ?_); rw [capI_eq] at h1
    have e1 : mn (s + (L.drop i).sum) 1000000000000001 = s := by
      rw [List.drop_of_length_le (by omega)]; unfold mn
      simp
      omega
    rw [e1]; exact ccF_ev s
  | succ e ih =>
    intro i s hi h0 h1; have hx := hL (L.getD i 0) (by rw [← getElem_getD L i 0 (by omega)]; exact List.getElem_mem _); have hs := sum_pos (L.drop (i + 1)) (fun x hx => hL x (List.mem_of_mem_drop hx)); rw [capI_eq] at h1 hx; refine Ev.step (fun k => by rw [impl_CountCrossings.l0]) ?_; rw [rdK, i1 i (by omega), w64 (x := s + L.getD i 0) (by omega) (by omega)]; refine evPos (by omega) (evPos (by omega) (evPos (by omega) ?_)); have hm := mn_at (s + L.getD i 0) (by omega); refine evEq (ih (i + 1) _ (by omega) hm.1 hm.2) ?_; rw [mn_mn _ _ hs, getD_drop_cons L i 0 (by omega), List.sum_cons]; congr 2; omega
theorem cc_spec (L : List Int) (hL : ∀ x ∈ L, 0 ≤ x ∧ x ≤ capI) (hl : L.length ≤ 1000) : ∀ (e i : Nat) (s : Int), i + e = L.length → 0 ≤ s → s ≤ capI → Ev (fun k => spec_CountCrossings.l0 k s L (L.length : Int) (i : Int)) (ccF (mn (s + (L.drop i).sum) 1000000000000001)) := by
  intro e
  induction e with
  | zero =>
    intro i s hi h0 h1; refine Ev.step (fun k => by rw [spec_CountCrossings.l0]) (evNeg (by omega) ?_); rw [capI_eq] at h1
    have e1 : mn (s + (L.drop i).sum) 1000000000000001 = s := by
      rw [List.drop_of_length_le (by omega)]; unfold mn
      simp
      omega
    rw [e1]; exact ccF_ev s
  | succ e ih =>
    intro i s hi h0 h1; have hx := hL (L.getD i 0) (by rw [← getElem_getD L i 0 (by omega)]; exact List.getElem_mem _); have hs := sum_pos (L.drop (i + 1)) (fun x hx => hL x (List.mem_of_mem_drop hx)); rw [capI_eq] at h1 hx; refine Ev.step (fun k => by rw [spec_CountCrossings.l0]) ?_; rw [rdK, i1 i (by omega), w64 (x := s + L.getD i 0) (by omega) (by omega)]; refine evPos (by omega) (evPos (by omega) (evPos (by omega) (evBind0 (least_eq _ _) ?_))); have hm := mn_at (s + L.getD i 0) (by omega); refine evEq (ih (i + 1) _ (by omega) hm.1 hm.2) ?_; rw [mn_mn _ _ hs, getD_drop_cons L i 0 (by omega), List.sum_cons]; congr 2; omega
theorem rowOf_more (W : Nat) (f : Nat → Int) (h : ∀ k, W ≤ k → f k = 0) : ∀ d, (rowOf (W + d) f).sum = (rowOf W f).sum
 | 0 => rfl
 | d + 1 => by
  have e : rowOf (W + (d + 1)) f = rowOf (W + d) f ++ [f (W + d)] := by
    unfold rowOf; rw [← Nat.add_assoc, List.range_succ, List.map_append]; rfl
  rw [e, List.sum_append, rowOf_more W f h d, h (W + d) (by omega)]
  simp
theorem rowOf_mem {W : Nat} {f : Nat → Int} {P : Int → Prop} (h : ∀ k, P (f k)) : ∀ x ∈ rowOf W f, P x := by
  intro x hx
  obtain ⟨k, _, rfl⟩ := List.mem_map.1 hx
  exact h k
def allN (r : ByteArray) (a : Int) : Int := (rowOf (r.size + 2) (waysF r a)).sum
def cntF (r : ByteArray) (a : Int) : Int × Bool := if askB r a = true then ccF (mn (allN r a) 1000000000000001) else (0, false)
theorem Count_impl (r : ByteArray) (a : Int) (h : r.size ≤ 1000000) : Ev (fun k => impl_CountCrossings.f k r a) (cntF r a) := by
  unfold impl_CountCrossings.f cntF
  refine evBind0 (ask_impl r a h) ?_
  by_cases hq : askB r a = true
  · obtain ⟨_, h1, h2, h3, h4⟩ := askB_facts hq
    rw [if_pos hq]; refine evPos hq (Ev.bind (countBy_ev r h2 a h3 (by omega)) ?_); have hr := cc_impl (rowOf 42 (waysF r a)) (rowOf_mem (fun k => (ways_pos r a h3 k).1)) (by rw [rowOf_len]; omega) _ 0 0 (Nat.zero_add _) (by omega) (by rw [capI_eq]; omega); refine evEq hr ?_; rw [List.drop_zero]; have := rowOf_more (r.size + 2) (waysF r a) (fun k hk => ways_thin r a h3 k (by omega)) (40 - r.size); rw [show r.size + 2 + (40 - r.size) = 42 by omega] at this; rw [this, Int.zero_add]; rfl
  · rw [if_neg hq]
    exact evNeg hq (evSome rfl)
theorem Count_spec (r : ByteArray) (a : Int) : Ev (fun k => spec_CountCrossings.f k r a) (cntF r a) := by
  unfold spec_CountCrossings.f cntF
  refine Ev.bind (ask_spec r a) ?_
  by_cases hq : askB r a = true
  · obtain ⟨_, h1, h2, h3, h4⟩ := askB_facts hq
    rw [if_pos hq]; refine evPos hq (Ev.bind (rvCount_ev r h2 a h3 (by omega)) ?_); have hr := cc_spec (rowOf (r.size + 2) (waysF r a)) (rowOf_mem (fun k => (ways_pos r a h3 k).1)) (by rw [rowOf_len]; omega) _ 0 0 (Nat.zero_add _) (by omega) (by rw [capI_eq]; omega); refine evEq hr ?_; rw [List.drop_zero, Int.zero_add]; rfl
  · rw [if_neg hq]
    exact evNeg hq (evSome rfl)
def cblF (r : ByteArray) (a : Int) (n : Int) : Int × Bool := if askB r a = true ∧ 0 ≤ n ∧ n ≤ 41 then ccF (waysF r a n.toNat) else (0, false)
theorem inB_iff (n : Int) : inB n 0 41 = true ↔ 0 ≤ n ∧ n ≤ 41 := by
  unfold inB
  rw [Bool.and_eq_true]
  simp
theorem By_impl (r : ByteArray) (a n : Int) (h : r.size ≤ 1000000) : Ev (fun k => impl_CountByLeaps.f k r a n) (cblF r a n) := by
  have no : Ev (fun k => impl_CountByLeaps.j0 k r a n true) (0, false) := Ev.step (fun k => by rw [impl_CountByLeaps.j0]) (evPos rfl (evSome rfl))
  unfold impl_CountByLeaps.f cblF
  refine evBind0 (ask_impl r a h) ?_
  by_cases hq : askB r a = true
  · obtain ⟨_, h1, h2, h3, h4⟩ := askB_facts hq
    refine evPos hq (evBind0 (within_eq _ _ _) ?_)
    by_cases hn : 0 ≤ n ∧ n ≤ 41
    · rw [(inB_iff n).2 hn, if_pos ⟨hq, hn⟩]
      refine Ev.step (fun k => by rw [impl_CountByLeaps.j0]) (evNeg (by simp) (Ev.bind (countBy_ev r h2 a h3 (by omega)) ?_)); obtain ⟨m, rfl⟩ : ∃ m : Nat, n = (m : Int) := ⟨n.toNat, by omega⟩; rw [rd_rowOf 42 _ m (by omega), Int.toNat_natCast, rowOf_len]; refine evPos (by omega) (evPos (by omega) ?_); exact ccF_ev _
    · have : inB n 0 41 = false := Bool.eq_false_iff.2 (fun hh => hn ((inB_iff n).1 hh))
      rw [this, if_neg (fun hh => hn hh.2)]; exact no
  · rw [if_neg (fun hh => hq hh.1)]
    exact evNeg hq no
theorem By_spec (r : ByteArray) (a n : Int) : Ev (fun k => spec_CountByLeaps.f k r a n) (cblF r a n) := by
  have no : Ev (fun k => spec_CountByLeaps.j0 k r a n true) (0, false) := Ev.step (fun k => by rw [spec_CountByLeaps.j0]) (evPos rfl (evSome rfl))
  unfold spec_CountByLeaps.f cblF
  refine Ev.bind (ask_spec r a) ?_
  by_cases hq : askB r a = true
  · obtain ⟨_, h1, h2, h3, h4⟩ := askB_facts hq
    refine evPos hq (evBind0 (l1In_eq _ _ _) ?_)
    by_cases hn : 0 ≤ n ∧ n ≤ 41
    · rw [(inB_iff n).2 hn, if_pos ⟨hq, hn⟩]
      refine Ev.step (fun k => by rw [spec_CountByLeaps.j0]) (evNeg (by simp) (Ev.bind (rvCount_ev r h2 a h3 (by omega)) ?_)); obtain ⟨m, rfl⟩ : ∃ m : Nat, n = (m : Int) := ⟨n.toNat, by omega⟩; rw [Int.toNat_natCast, rowOf_len]
      by_cases hm : r.size + 2 ≤ m
      · rw [ways_thin r a h3 m (by omega)]
        exact evPos (by omega) (evSome rfl)
      · rw [rd_rowOf (r.size + 2) _ m (by omega)]
        refine evNeg (by omega) (evPos (by omega) (evPos (by omega) ?_)); exact ccF_ev _
    · have : inB n 0 41 = false := Bool.eq_false_iff.2 (fun hh => hn ((inB_iff n).1 hh))
      rw [this, if_neg (fun hh => hn hh.2)]; exact no
  · rw [if_neg (fun hh => hq hh.1)]
    exact evNeg hq no
theorem dSum_l0 (L : List Int) (hl : L.length ≤ 1000000) (hp : ∀ x ∈ L, 0 ≤ x) : ∀ (e i : Nat) (s : Int), i + e = L.length → 0 ≤ s → s + (L.drop i).sum ≤ 1000000000000000000 → Ev (fun k => laws_dSum.l0 k s L (L.length : Int) (i : Int)) (s + (L.drop i).sum) := by
  have sp : ∀ M : List Int, (∀ x ∈ M, 0 ≤ x) → 0 ≤ M.sum := by
    intro M
    induction M with
    | nil => intro _; simp
    | cons x t ih =>
      intro h; have h1 := ih (fun y hy => h y (List.mem_cons_of_mem _ hy)); have h2 := h x List.mem_cons_self; rw [List.sum_cons]; omega
  intro e
  induction e with
  | zero =>
    intro i s hi h0 h1; refine Ev.step (fun k => by rw [laws_dSum.l0]) (evNeg (by omega) (evSome ?_)); rw [List.drop_of_length_le (by omega)]
    simp
  | succ e ih =>
    intro i s hi h0 h1; have hx := hp (L.getD i 0) (by rw [← getElem_getD L i 0 (by omega)]; exact List.getElem_mem _); have hs := sp (L.drop (i + 1)) (fun x hx => hp x (List.mem_of_mem_drop hx)); rw [getD_drop_cons L i 0 (by omega), List.sum_cons] at h1 ⊢; refine Ev.step (fun k => by rw [laws_dSum.l0]) ?_; rw [rdK, w64 (x := (i : Int) + 1) (by omega) (by omega), w64 (x := s + L.getD i 0) (by omega) (by omega)]; refine evPos (by omega) (evPos (by omega) (evPos (by omega) ?_)); have := ih (i + 1) (s + L.getD i 0) (by omega) (by omega) (by omega); refine evEq this ?_; omega
theorem dSum_ev (L : List Int) (hl : L.length ≤ 1000000) (hp : ∀ x ∈ L, 0 ≤ x) (hb : L.sum ≤ 1000000000000000000) : Ev (fun k => laws_dSum.f k L) L.sum := by
  unfold laws_dSum.f
  have := dSum_l0 L hl hp L.length 0 0 (Nat.zero_add _) (Int.le_refl _) (by rw [List.drop_zero]; omega)
  rw [List.drop_zero, Int.zero_add] at this
  exact this
theorem drawI {c : List Int} (hc : bytesOk c) (i s : Int) (l : List Int) (h0 : 0 ≤ i) (hB : i ≤ 1000000000) (hl : 1 ≤ l.length) (hl2 : l.length ≤ 1000) : ∃ v i' s', spec_l1Cur_among.f c i s l = some (v, i', s') ∧ i ≤ i' ∧ i' ≤ i + 2 ∧ v ∈ l := by
  obtain ⟨v, i', s', e, v0, v1, _, h1, h2⟩ := pick_ok hc i s (l.length : Int) h0 hB (by omega)
  unfold spec_l1Cur_among.f
  have v2 := v1 (by omega)
  rw [e]
  simp only [Option.bind_some]
  rw [if_pos v0, if_pos v2]
  refine ⟨_, _, _, rfl, h1, h2, ?_⟩
  unfold rd
  rw [List.getD_eq_getElem?_getD, List.getElem?_eq_getElem (show v.toNat < l.length by omega)]
  exact List.getElem_mem _
theorem drawB {c : List Int} (hc : bytesOk c) (i s n : Int) (h0 : 0 ≤ i) (hB : i ≤ 1000000000) (hn : n ≤ 1000000000) : ∃ v i' s', spec_l1Cur_one.f c i s n = some (v, i', s') ∧ i ≤ i' ∧ i' ≤ i + 2 := by
  obtain ⟨v, i', s', e, v0, v1, _, h1, h2⟩ := pick_ok hc i s n h0 hB hn
  unfold spec_l1Cur_one.f
  rw [e]
  exact ⟨_, _, _, rfl, h1, h2⟩
theorem drawOf {c : List Int} (hc : bytesOk c) (i s : Int) (l : List ByteArray) (h0 : 0 ≤ i) (hB : i ≤ 1000000000) (hl : 1 ≤ l.length) (hl2 : l.length ≤ 1000) : ∃ v i' s', spec_l1Cur_of.f c i s l = some (v, i', s') ∧ i ≤ i' ∧ i' ≤ i + 2 ∧ v ∈ l := by
  obtain ⟨v, i', s', e, v0, v1, _, h1, h2⟩ := pick_ok hc i s (l.length : Int) h0 hB (by omega)
  unfold spec_l1Cur_of.f
  have v2 := v1 (by omega)
  rw [e]
  simp only [Option.bind_some]
  rw [if_pos v0, if_pos v2]
  refine ⟨_, _, _, rfl, h1, h2, ?_⟩
  unfold rdOf
  rw [List.getD_eq_getElem?_getD, List.getElem?_eq_getElem (show v.toNat < l.length by omega)]
  exact List.getElem_mem _
theorem strOne (x : Int) : (strOfNums [x]).size = 1 := by rw [strOfNums_size]; rfl
theorem spoilt_l0 {c : List Int} (hc : bytesOk c) (W : ByteArray) (hW : 1 ≤ W.size) (hW2 : W.size ≤ 1000) (T : Int) (hT : T ≤ 100000000) : ∀ (e : Nat) (t : ByteArray) (i s : Int), e ≤ 100 → t.size + e ≤ 1000000 → 0 ≤ i → i + 6 * (e : Int) ≤ T → ∃ t' i' s', t'.size ≤ t.size + e ∧ i ≤ i' ∧ i' ≤ i + 6 * (e : Int) ∧ Ev (fun k => spec_l1Cur_spoilt.l0 k t W (e : Int) c i s) (t', i', s') := by
  intro e
  induction e with
  | zero =>
    intro t i s he ht h0 hi; refine ⟨t, i, s, by omega, by omega, by omega, ?_⟩; refine Ev.step (fun k => by rw [spec_l1Cur_spoilt.l0]) (evNeg (by omega) ?_); refine Ev.step (fun k => by rw [spec_l1Cur_spoilt.j1]) (evNeg (by simp) (evSome rfl))
  | succ e ih =>
    intro t i s he ht h0 hi
    by_cases hz : t.size = 0
    · refine ⟨t, i, s, by omega, by omega, by omega, ?_⟩
      refine Ev.step (fun k => by rw [spec_l1Cur_spoilt.l0]) (evPos (by omega) ?_); rw [decide_eq_false (by omega)]; refine Ev.step (fun k => by rw [spec_l1Cur_spoilt.j1]) (evNeg (by simp) (evSome rfl))
    · obtain ⟨v, i1, s1, e1, v0, v1, _, g1, g2⟩ := pick_ok hc i s (t.size : Int) h0 (by omega) (by omega)
      have v2 := v1 (by omega); obtain ⟨w, i2, s2, e2, w0, w1, _, g3, g4⟩ := pick_ok hc i1 s1 (W.size : Int) (by omega) (by omega) (by omega); have w2 := w1 (by omega); obtain ⟨x, i3, s3, e3, _, _, _, g5, g6⟩ := pick_ok hc i2 s2 3 (by omega) (by omega) (by omega); obtain ⟨n, rfl⟩ : ∃ n : Nat, v = (n : Int) := ⟨v.toNat, by omega⟩
      have st : ∀ R, Ev (fun k => if x = 0 then (if 0 ≤ (n : Int) then (if (n : Int) ≤ (t.size : Int) then (if (t.extract 0 n).size + (strOfNums [bt W w]).size ≤ 9223372036854775807 then (if ((t.extract 0 n) ++ (strOfNums [bt W w])).size + (t.extract n t.size).size ≤ 9223372036854775807 then spec_l1Cur_spoilt.l0 k (((t.extract 0 n) ++ (strOfNums [bt W w])) ++ (t.extract n t.size)) W (e : Int) c i3 s3 else none) else none) else none) else none) else (if x = 1 then (if 0 ≤ (n : Int) then (if (n : Int) ≤ (t.size : Int) then (if (t.extract 0 n).size + (strOfNums [bt W w]).size ≤ 9223372036854775807 then (if 0 ≤ ((n + 1 : Nat) : Int) then (if ((n + 1 : Nat) : Int) ≤ (t.size : Int) then (if ((t.extract 0 n) ++ (strOfNums [bt W w])).size + (t.extract (n + 1) t.size).size ≤ 9223372036854775807 then spec_l1Cur_spoilt.l0 k (((t.extract 0 n) ++ (strOfNums [bt W w])) ++ (t.extract (n + 1) t.size)) W (e : Int) c i3 s3 else none) else none) else none) else none) else none) else none) else (if 0 ≤ (n : Int) then (if (n : Int) ≤ (t.size : Int) then (if 0 ≤ ((n + 1 : Nat) : Int) then (if ((n + 1 : Nat) : Int) ≤ (t.size : Int) then (if (t.extract 0 n).size + (t.extract (n + 1) t.size).size ≤ 9223372036854775807 then spec_l1Cur_spoilt.l0 k ((t.extract 0 n) ++ (t.extract (n + 1) t.size)) W (e : Int) c i3 s3 else none) else none) else none) else none) else none))) R → Ev (fun k => spec_l1Cur_spoilt.l0 k t W ((e + 1 : Nat) : Int) c i s) R := by
        intro R hR; refine Ev.step (fun k => by rw [spec_l1Cur_spoilt.l0]) (evPos (by omega) ?_); rw [decide_eq_true (by omega)]; refine Ev.step (fun k => by rw [spec_l1Cur_spoilt.j1]) (evPos rfl (evBind0 e1 (evBind0 e2 (evPos w0 (evPos w2 ?_))))); refine evBind0 rfl ?_; refine evBind0 e3 ?_; rw [show wrap64 (((e + 1 : Nat) : Int) - 1) = ((e : Nat) : Int) from (w64 (by omega) (by omega)).trans (by omega), show wrap64 ((n : Int) + 1) = ((n + 1 : Nat) : Int) from (w64 (by omega) (by omega)).trans (by omega), Int.toNat_natCast, Int.toNat_natCast]; exact hR
      have q1 : (t.extract 0 n).size = n := by rw [ByteArray.size_extract]; omega
      have q2 : (t.extract n t.size).size = t.size - n := by rw [ByteArray.size_extract]; omega
      have q3 : (t.extract (n + 1) t.size).size = t.size - (n + 1) := by rw [ByteArray.size_extract]; omega
      have q4 := strOne (bt W w)
      by_cases c0 : x = 0
      · obtain ⟨t', i', s', k1, k2, k3, hE⟩ := ih (((t.extract 0 n) ++ (strOfNums [bt W w])) ++ (t.extract n t.size)) i3 s3 (by omega) (by rw [ByteArray.size_append, ByteArray.size_append]; omega) (by omega) (by omega)
        rw [ByteArray.size_append, ByteArray.size_append] at k1; exact ⟨t', i', s', by omega, by omega, by omega, st _ (evPos c0 (evPos (by omega) (evPos (by omega) (evPos (by omega) (evPos (by rw [ByteArray.size_append]; omega) hE)))))⟩
      · by_cases c1 : x = 1
        · obtain ⟨t', i', s', k1, k2, k3, hE⟩ := ih (((t.extract 0 n) ++ (strOfNums [bt W w])) ++ (t.extract (n + 1) t.size)) i3 s3 (by omega) (by rw [ByteArray.size_append, ByteArray.size_append]; omega) (by omega) (by omega)
          rw [ByteArray.size_append, ByteArray.size_append] at k1; exact ⟨t', i', s', by omega, by omega, by omega, st _ (evNeg c0 (evPos c1 (evPos (by omega) (evPos (by omega) (evPos (by omega) (evPos (by omega) (evPos (by omega) (evPos (by rw [ByteArray.size_append]; omega) hE))))))))⟩
        · obtain ⟨t', i', s', k1, k2, k3, hE⟩ := ih ((t.extract 0 n) ++ (t.extract (n + 1) t.size)) i3 s3 (by omega) (by rw [ByteArray.size_append]; omega) (by omega) (by omega)
          rw [ByteArray.size_append] at k1; exact ⟨t', i', s', by omega, by omega, by omega, st _ (evNeg c0 (evNeg c1 (evPos (by omega) (evPos (by omega) (evPos (by omega) (evPos (by omega) (evPos (by omega) hE)))))))⟩
theorem spoilt_ok {c : List Int} (hc : bytesOk c) (t W : ByteArray) (hW : 1 ≤ W.size) (hW2 : W.size ≤ 1000) (ht : t.size ≤ 900000) (i s : Int) (h0 : 0 ≤ i) (hi : i ≤ 10000000) : ∃ t' i' s', t'.size ≤ t.size + 2 ∧ i ≤ i' ∧ i' ≤ i + 14 ∧ Ev (fun k => spec_l1Cur_spoilt.f k c i s t W) (t', i', s') := by
  obtain ⟨v, i1, s1, e1, v0, v1, _, g1, g2⟩ := pick_ok hc i s 2 h0 (by omega) (by omega)
  have v2 := v1 (by omega)
  obtain ⟨n, hn2⟩ : ∃ n : Nat, 1 + v = (n : Int) := ⟨(1 + v).toNat, by omega⟩
  obtain ⟨t', i', s', k1, k2, k3, hE⟩ := spoilt_l0 hc W hW hW2 100000000 (by omega) n t i1 s1 (by omega) (by omega) (by omega) (by omega)
  refine ⟨t', i', s', by omega, by omega, by omega, ?_⟩
  unfold spec_l1Cur_spoilt.f
  refine evBind0 e1 ?_
  rw [show wrap64 (1 + v) = (n : Int) from (w64 (by omega) (by omega)).trans hn2]
  exact hE
theorem sureR_l0 {c : List Int} (hc : bytesOk c) : ∀ (e : Nat) (t : ByteArray) (i s : Int), t.size + e ≤ 1000 → 0 ≤ i → i + 2 * (e : Int) ≤ 1000000000 → ∃ t' i' s', t'.size ≤ t.size + e ∧ i ≤ i' ∧ i' ≤ i + 2 * (e : Int) ∧ Ev (fun k => spec_l1Cur_sureRiver.l0 k t (e : Int) c i s) (t', i', s') := by
  intro e
  induction e with
  | zero =>
    intro t i s ht h0 hi; exact ⟨t, i, s, by omega, by omega, by omega, Ev.step (fun k => by rw [spec_l1Cur_sureRiver.l0]) (evNeg (by omega) (evSome rfl))⟩
  | succ e ih =>
    intro t i s ht h0 hi; obtain ⟨v, i1, s1, e1, g1, g2, hv⟩ := drawOf hc i s [(⟨#[111]⟩ : ByteArray), (⟨#[111]⟩ : ByteArray), (⟨#[46]⟩ : ByteArray)] h0 (by omega) (by simp) (by simp)
    have hs : v.size = 1 := by
      simp only [List.mem_cons, List.not_mem_nil, or_false] at hv; rcases hv with rfl | rfl | rfl <;> rfl
    obtain ⟨t', i', s', k1, k2, k3, hE⟩ := ih (t ++ v) i1 s1 (by rw [ByteArray.size_append]; omega) (by omega) (by omega); rw [ByteArray.size_append] at k1; refine ⟨t', i', s', by omega, by omega, by omega, ?_⟩; refine Ev.step (fun k => by rw [spec_l1Cur_sureRiver.l0]) ?_; rw [show wrap64 (((e + 1 : Nat) : Int) - 1) = ((e : Nat) : Int) from (w64 (by omega) (by omega)).trans (by omega)]; exact evPos (by omega) (evBind0 e1 (evPos (by dsimp only; omega) hE))
theorem sureR_ok {c : List Int} (hc : bytesOk c) (m : Int) (hm : 1 ≤ m) (hm2 : m ≤ 100) (i s : Int) (h0 : 0 ≤ i) (hi : i ≤ 100000000) : ∃ t i' s', (t.size : Int) ≤ m ∧ i ≤ i' ∧ i' ≤ i + 2 + 2 * m ∧ Ev (fun k => spec_l1Cur_sureRiver.f k c i s m) (t, i', s') := by
  obtain ⟨v, i1, s1, e1, v0, v1, _, g1, g2⟩ := pick_ok hc i s m h0 (by omega) (by omega)
  have v2 := v1 (by omega)
  obtain ⟨n, hn⟩ : ∃ n : Nat, 1 + v = (n : Int) := ⟨(1 + v).toNat, by omega⟩
  obtain ⟨t', i', s', k1, k2, k3, hE⟩ := sureR_l0 hc n (⟨#[]⟩ : ByteArray) i1 s1 (by show 0 + n ≤ 1000; omega) (by omega) (by omega)
  have z : (⟨#[]⟩ : ByteArray).size = 0 := rfl
  rw [z] at k1
  refine ⟨t', i', s', by omega, by omega, by omega, ?_⟩
  unfold spec_l1Cur_sureRiver.f
  refine evBind0 e1 ?_
  rw [w64 (x := 1 + v) (by omega) (by omega), hn]
  exact hE
theorem riv_l0 {c : List Int} (hc : bytesOk c) : ∀ (e : Nat) (t : ByteArray) (i s : Int), 40 ≤ t.size + e → t.size ≤ 100 → e ≤ 1000 → 0 ≤ i → i + 2 * (e : Int) ≤ 1000000000 → ∃ t' i' s', t'.size ≤ 100 ∧ i ≤ i' ∧ i' ≤ i + 2 * (e : Int) ∧ Ev (fun k => spec_l1Cur_river.l0 k t c i s) (t', i', s') := by
  intro e
  induction e with
  | zero =>
    intro t i s ht ht2 he h0 hi; exact ⟨t, i, s, by omega, by omega, by omega, Ev.step (fun k => by rw [spec_l1Cur_river.l0]) (evNeg (by omega) (evSome rfl))⟩
  | succ e ih =>
    intro t i s ht ht2 he h0 hi
    by_cases h40 : t.size < 40
    · obtain ⟨v, i1, s1, e1, g1, g2, hv⟩ := drawOf hc i s [(⟨#[111]⟩ : ByteArray), (⟨#[46]⟩ : ByteArray)] h0 (by omega) (by simp) (by simp)
      have hs : v.size = 1 := by
        simp only [List.mem_cons, List.not_mem_nil, or_false] at hv; rcases hv with rfl | rfl <;> rfl
      obtain ⟨t', i', s', k1, k2, k3, hE⟩ := ih (t ++ v) i1 s1 (by rw [ByteArray.size_append]; omega) (by rw [ByteArray.size_append]; omega) (by omega) (by omega) (by omega); refine ⟨t', i', s', k1, by omega, by omega, ?_⟩; refine Ev.step (fun k => by rw [spec_l1Cur_river.l0]) (evPos (by omega) (evBind0 e1 ?_)); exact evPos (by dsimp only; omega) hE
    · exact ⟨t, i, s, by omega, by omega, by omega, Ev.step (fun k => by rw [spec_l1Cur_river.l0]) (evNeg (by omega) (evSome rfl))⟩
theorem river_ok {c : List Int} (hc : bytesOk c) (i s : Int) (h0 : 0 ≤ i) (hi : i ≤ 1000000) : ∃ t i' s', t.size ≤ 100 ∧ i ≤ i' ∧ i' ≤ i + 200 ∧ Ev (fun k => spec_l1Cur_river.f k c i s) (t, i', s') := by
  obtain ⟨t, i1, s1, h1, h2, h3, hE⟩ := sureR_ok hc 14 (by omega) (by omega) i s h0 (by omega)
  obtain ⟨v, i2, s2, e2, v0, v1, _, g1, g2⟩ := pick_ok hc i1 s1 18 (by omega) (by omega) (by omega)
  unfold spec_l1Cur_river.f
  by_cases c0 : v = 0
  · obtain ⟨w, i3, s3, e3, g3, g4, hw⟩ := drawOf hc i2 s2 [(⟨#[]⟩ : ByteArray), (⟨#[120]⟩ : ByteArray), (⟨#[111, 32, 111]⟩ : ByteArray), (⟨#[46, 46, 46, 46, 46, 46, 46, 46, 46, 46, 46, 46, 46, 46, 46, 46, 46, 46, 46, 46, 46, 46, 46, 46, 46, 46, 46, 46, 46, 46, 46, 46, 46, 46, 46, 46, 46, 46, 46, 46]⟩ : ByteArray), (⟨#[111, 111, 111, 111, 111, 111, 111, 111, 111, 111, 111, 111, 111, 111, 111, 111, 111, 111, 111, 111, 111, 111, 111, 111, 111, 111, 111, 111, 111, 111, 111, 111, 111, 111, 111, 111, 111, 111, 111, 111, 111]⟩ : ByteArray)] (by omega) (by omega) (by simp) (by simp)
    have hs : w.size ≤ 100 := by
      simp only [List.mem_cons, List.not_mem_nil, or_false] at hw; rcases hw with rfl | rfl | rfl | rfl | rfl <;> decide
    exact ⟨w, i3, s3, hs, by omega, by omega, Ev.bind hE (evBind0 e2 (evPos c0 (evBind0 e3 (evSome rfl))))⟩
  · by_cases c1 : v = 1
    · obtain ⟨w, i3, s3, g3, g4, g5, hE2⟩ := spoilt_ok hc t (⟨#[111, 46, 120]⟩ : ByteArray) (by decide) (by decide) (by omega) i2 s2 (by omega) (by omega)
      exact ⟨w, i3, s3, by omega, by omega, by omega, Ev.bind hE (evBind0 e2 (evNeg c0 (evPos c1 (Ev.bind hE2 (evSome rfl)))))⟩
    · by_cases c2 : v = 2
      · obtain ⟨w, i3, s3, g3, g4, g5, hE2⟩ := riv_l0 hc 40 t i2 s2 (by omega) (by omega) (by omega) (by omega) (by omega)
        exact ⟨w, i3, s3, g3, by omega, by omega, Ev.bind hE (evBind0 e2 (evNeg c0 (evNeg c1 (evPos c2 hE2))))⟩
      · exact ⟨t, i2, s2, by omega, by omega, by omega, Ev.bind hE (evBind0 e2 (evNeg c0 (evNeg c1 (evNeg c2 (evSome rfl)))))⟩
theorem leap_ok {c : List Int} (hc : bytesOk c) (i s : Int) (h0 : 0 ≤ i) (hi : i ≤ 1000000) : ∃ v i' s', i ≤ i' ∧ i' ≤ i + 2 ∧ spec_l1Cur_leap.f c i s = some (v, i', s') := by
  obtain ⟨v, i1, s1, e1, g1, g2, _⟩ := drawI hc i s [1, 2, 2, 3, 3, 4, 5, 9, 50, 51, 0, (-1)] h0 (by omega) (by simp) (by simp)
  unfold spec_l1Cur_leap.f
  rw [e1]
  exact ⟨_, _, _, g1, g2, rfl⟩
theorem leaper_ok {c : List Int} (hc : bytesOk c) (i s : Int) (h0 : 0 ≤ i) (hi : i ≤ 100000) : ∃ t a i' s', t.size ≤ 100 ∧ i ≤ i' ∧ i' ≤ i + 300 ∧ Ev (fun k => spec_l1Cur_leaper.f k c i s) (t, a, i', s') := by
  obtain ⟨t, i1, s1, h1, h2, h3, hE⟩ := river_ok hc i s h0 (by omega)
  have no : ∀ i2 s2, i1 ≤ i2 → i2 ≤ i1 + 2 → ∃ a i' s', i2 ≤ i' ∧ i' ≤ i2 + 2 ∧ Ev (fun k => spec_l1Cur_leaper.j0 k t false c i2 s2) (t, a, i', s') := by
    intro i2 s2 k1 k2; obtain ⟨v, i3, s3, g1, g2, e3⟩ := leap_ok hc i2 s2 (by omega) (by omega); exact ⟨v, i3, s3, g1, g2, Ev.step (fun k => by rw [spec_l1Cur_leaper.j0]) (evNeg (by simp) (evBind0 e3 (evSome rfl)))⟩
  unfold spec_l1Cur_leaper.f
  cases hg : goodL t with
  | true =>
    have hgE : Ev (fun k => spec_rvGood.f k t) true := hg ▸ rvGood_ev t; obtain ⟨b, i2, s2, e2, g1, g2⟩ := drawB hc i1 s1 3 (by omega) (by omega) (by omega)
    cases b with
    | false =>
      obtain ⟨a, i3, s3, g3, g4, hE3⟩ := no i2 s2 g1 g2; exact ⟨t, a, i3, s3, h1, by omega, by omega, Ev.bind hE (Ev.bind hgE (evPos rfl (evBind0 e2 hE3)))⟩
    | true =>
      obtain ⟨v, i3, s3, e3, v0, _, _, g3, g4⟩ := pick_ok hc i2 s2 2 (by omega) (by omega) (by omega); refine ⟨t, wrap64 ((gapOf 0 0 0 ((List.range' 1 (t.size + 1)).filter (pl t))).1 + v), i3, s3, h1, by omega, by omega, Ev.bind hE (Ev.bind hgE (evPos rfl (evBind0 e2 (Ev.step (fun k => by rw [spec_l1Cur_leaper.j0]) (evPos rfl (Ev.bind (rvGap_ev t (by omega)) ?_))))))⟩; exact evBind0 e3 (evSome rfl)
  | false =>
    have hgE : Ev (fun k => spec_rvGood.f k t) false := hg ▸ rvGood_ev t; obtain ⟨a, i3, s3, g3, g4, hE3⟩ := no i1 s1 (by omega) (by omega); exact ⟨t, a, i3, s3, h1, by omega, by omega, Ev.bind hE (Ev.bind hgE (evNeg (by simp) hE3))⟩
theorem drawFirst_ok {c : List Int} (hc : bytesOk c) : ∃ t a, t.size ≤ 100 ∧ Ev (fun k => spec_DrawFirstCrossing.f k c) (t, a) := by
  obtain ⟨t, a, i', s', h1, _, _, hE⟩ := leaper_ok hc 0 0 (by omega) (by omega)
  refine ⟨t, a, h1, ?_⟩
  unfold spec_DrawFirstCrossing.f spec_DrawCanCross.f
  exact Ev.bind (Ev.bind hE (evSome rfl)) (evSome rfl)
theorem drawBy_ok {c : List Int} (hc : bytesOk c) : ∃ t a n, t.size ≤ 100 ∧ Ev (fun k => spec_DrawCountByLeaps.f k c) (t, a, n) := by
  obtain ⟨t, a, i', s', h1, h2, h3, hE⟩ := leaper_ok hc 0 0 (by omega) (by omega)
  obtain ⟨v, i1, s1, e1, g1, g2, _⟩ := drawI hc i' s' [0, 1, 2, 3, 4, 5, 6, 8, 41, 42, (-1)] (by omega) (by omega) (by simp) (by simp)
  refine ⟨t, a, v, h1, ?_⟩
  unfold spec_DrawCountByLeaps.f
  exact Ev.bind hE (evBind0 e1 (evSome rfl))
theorem along_j1 {c : List Int} (hc : bytesOk c) (r : ByteArray) (L : List Int) (hL : L.length ≤ 1000) (p n : Int) (i s : Int) (h0 : 0 ≤ i) (hi : i ≤ 1000000) : ∃ M, M.length ≤ 1001 ∧ Ev (fun k => spec_DrawLeapAlong.j1 k r L p n false c i s) (r, M) := by
  obtain ⟨b, i1, s1, e1, g1, g2⟩ := drawB hc i s 8 h0 (by omega) (by omega)
  cases b with
  | false =>
    refine ⟨L, by omega, Ev.step (fun k => by rw [spec_DrawLeapAlong.j1]) (evNeg (by simp) (evBind0 e1 ?_))⟩; exact evNeg (by simp) (evSome rfl)
  | true =>
    obtain ⟨v, i2, s2, e2, g3, g4, _⟩ := drawI hc i1 s1 [(-1), 0, 1, 41, 4611686018427387904] (by omega) (by omega) (by simp) (by simp); refine ⟨L ++ [v], by simp; omega, Ev.step (fun k => by rw [spec_DrawLeapAlong.j1]) (evNeg (by simp) (evBind0 e1 ?_))⟩; refine evPos rfl (evBind0 e2 ?_); exact evPos (by omega) (evSome rfl)
theorem along_l1 {c : List Int} (hc : bytesOk c) (r : ByteArray) (hr : r.size ≤ 100) (L : List Int) (hL : L.length ≤ 1000) (p n : Int) (R : ByteArray × List Int → Prop) (T : Int) (hT : T ≤ 1000000)
    (h : ∀ (q : Nat) (i s : Int) (x : Int), q ≤ r.size + 1 → 0 ≤ i → i ≤ T → ∃ M, R M ∧ Ev (fun k => spec_DrawLeapAlong.l0 k r (L ++ [x]) (q : Int) (wrap64 (n - 1)) c i s) M) :
    ∀ (d q : Nat) (i s : Int), q + d = r.size + 1 → 0 ≤ i → i + 2 * (d : Int) + 2 ≤ T → ∃ M, R M ∧ Ev (fun k => spec_DrawLeapAlong.l1 k r L p n (q : Int) c i s) M := by
  intro d
  induction d with
  | zero =>
    intro q i s hq h0 hi; have e1 : wrap64 ((r.size : Int) + 1) = ((r.size + 1 : Nat) : Int) := i1r r.size (by omega)
    have fin : ∀ b i s, 0 ≤ i → i ≤ T → ∃ M, R M ∧ Ev (fun k => spec_DrawLeapAlong.j3 k r L p n (q : Int) b c i s) M := by
      intro b i s k0 k1; obtain ⟨M, hM, hE⟩ := h q i s (wrap64 ((q : Int) - p)) (by omega) k0 k1; refine ⟨M, hM, Ev.step (fun k => by rw [spec_DrawLeapAlong.j3]) ?_⟩; rw [e1]
      cases b with
      | true => exact evPos rfl (evPos (by omega) (evPos (by omega) hE))
      | false => exact evNeg (by simp) (evPos (by omega) hE)
    cases hpl : pl r q with
    | true =>
      obtain ⟨M, hM, hE⟩ := fin false i s h0 (by omega); refine ⟨M, hM, Ev.step (fun k => by rw [spec_DrawLeapAlong.l1]) (evBind0 (rvStand_eq r hr q (by omega)) ?_)⟩; exact evPos hpl (evNeg (by omega) hE)
    | false =>
      obtain ⟨M, hM, hE⟩ := fin true i s h0 (by omega); refine ⟨M, hM, Ev.step (fun k => by rw [spec_DrawLeapAlong.l1]) (evBind0 (rvStand_eq r hr q (by omega)) ?_)⟩; exact evNeg (by rw [hpl]; simp) hE
  | succ d ih =>
    intro q i s hq h0 hi; have e1 : wrap64 ((r.size : Int) + 1) = ((r.size + 1 : Nat) : Int) := i1r r.size (by omega); have e2 : wrap64 ((q : Int) + 1) = ((q + 1 : Nat) : Int) := i1r q (by omega)
    have fin : ∀ b i s, 0 ≤ i → i + 2 * (d : Int) + 2 ≤ T → ∃ M, R M ∧ Ev (fun k => spec_DrawLeapAlong.j3 k r L p n (q : Int) b c i s) M := by
      intro b i s k0 k1
      cases b with
      | true =>
        obtain ⟨M, hM, hE⟩ := ih (q + 1) i s (by omega) k0 (by omega); refine ⟨M, hM, Ev.step (fun k => by rw [spec_DrawLeapAlong.j3]) ?_⟩; rw [e1, e2]; exact evPos rfl (evNeg (by omega) hE)
      | false =>
        obtain ⟨M, hM, hE⟩ := h q i s (wrap64 ((q : Int) - p)) (by omega) k0 (by omega); refine ⟨M, hM, Ev.step (fun k => by rw [spec_DrawLeapAlong.j3]) ?_⟩; exact evNeg (by simp) (evPos (by omega) hE)
    cases hpl : pl r q with
    | true =>
      obtain ⟨b, i1, s1, k1, g1, g2⟩ := drawB hc i s 4 h0 (by omega) (by omega); obtain ⟨M, hM, hE⟩ := fin b i1 s1 (by omega) (by omega); refine ⟨M, hM, Ev.step (fun k => by rw [spec_DrawLeapAlong.l1]) (evBind0 (rvStand_eq r hr q (by omega)) ?_)⟩; refine evPos hpl (evPos (by omega) (evBind0 k1 ?_)); exact hE
    | false =>
      obtain ⟨M, hM, hE⟩ := fin true i s h0 (by omega); refine ⟨M, hM, Ev.step (fun k => by rw [spec_DrawLeapAlong.l1]) (evBind0 (rvStand_eq r hr q (by omega)) ?_)⟩; exact evNeg (by rw [hpl]; simp) hE
theorem along_l0 {c : List Int} (hc : bytesOk c) (r : ByteArray) (hr : r.size ≤ 100) : ∀ (n : Nat) (L : List Int) (p : Nat) (i s : Int), L.length + n ≤ 100 → p ≤ r.size + 1 → 0 ≤ i → i + 300 * (n : Int) ≤ 100000 → ∃ M, (M.1 = r ∧ M.2.length ≤ 1001) ∧ Ev (fun k => spec_DrawLeapAlong.l0 k r L (p : Int) (n : Int) c i s) M := by
  intro n
  induction n with
  | zero =>
    intro L p i s hL hp h0 hi; obtain ⟨M, hM, hE⟩ := along_j1 hc r L (by omega) (p : Int) ((0 : Nat) : Int) i s h0 (by omega); exact ⟨(r, M), ⟨rfl, hM⟩, Ev.step (fun k => by rw [spec_DrawLeapAlong.l0]) (evNeg (by omega) hE)⟩
  | succ n ih =>
    intro L p i s hL hp h0 hi
    have out : ∃ M : ByteArray × List Int, (M.1 = r ∧ M.2.length ≤ 1001) ∧ Ev (fun k => spec_DrawLeapAlong.j1 k r L (p : Int) ((n + 1 : Nat) : Int) false c i s) M := by
      obtain ⟨M, hM, hE⟩ := along_j1 hc r L (by omega) (p : Int) ((n + 1 : Nat) : Int) i s h0 (by omega); exact ⟨(r, M), ⟨rfl, hM⟩, hE⟩
    cases hg : goodL r with
    | false =>
      have hgE : Ev (fun k => spec_rvGood.f k r) false := hg ▸ rvGood_ev r; obtain ⟨M, hM, hE⟩ := out; exact ⟨M, hM, Ev.step (fun k => by rw [spec_DrawLeapAlong.l0]) (evPos (by omega) (Ev.bind hgE (evNeg Bool.false_ne_true hE)))⟩
    | true =>
      have hgE : Ev (fun k => spec_rvGood.f k r) true := hg ▸ rvGood_ev r
      by_cases hp2 : p ≤ r.size
      · have hm : wrap64 (((n + 1 : Nat) : Int) - 1) = ((n : Nat) : Int) := (w64 (by omega) (by omega)).trans (by omega)
        obtain ⟨M, hM, hE⟩ := along_l1 hc r hr L (by omega) (p : Int) ((n + 1 : Nat) : Int) (fun M => M.1 = r ∧ M.2.length ≤ 1001) (100000 - 300 * (n : Int)) (by omega) (by
          intro q i s x hq k0 k1; rw [hm]
          exact ih (L ++ [x]) q i s (by simp; omega) hq k0 (by omega)) (r.size - p) (p + 1) i s (by omega) h0 (by omega)
        refine ⟨M, hM, Ev.step (fun k => by rw [spec_DrawLeapAlong.l0]) (evPos (by omega) (Ev.bind hgE (evPos rfl ?_)))⟩; rw [decide_eq_true (by omega)]; refine Ev.step (fun k => by rw [spec_DrawLeapAlong.j1]) (evPos rfl ?_); rw [i1r p (by omega)]; exact hE
      · obtain ⟨M, hM, hE⟩ := out
        refine ⟨M, hM, Ev.step (fun k => by rw [spec_DrawLeapAlong.l0]) (evPos (by omega) (Ev.bind hgE (evPos rfl ?_)))⟩; rw [decide_eq_false (by omega)]; exact hE
theorem drawAlong_ok {c : List Int} (hc : bytesOk c) : ∃ t L, t.size ≤ 100 ∧ L.length ≤ 1001 ∧ Ev (fun k => spec_DrawLeapAlong.f k c) (t, L) := by
  obtain ⟨t, i1, s1, h1, h2, h3, hE⟩ := river_ok hc 0 0 (by omega) (by omega)
  obtain ⟨v, i2, s2, e2, v0, v1, _, g1, g2⟩ := pick_ok hc i1 s1 9 (by omega) (by omega) (by omega)
  have v2 := v1 (by omega)
  obtain ⟨n, rfl⟩ : ∃ n : Nat, v = (n : Int) := ⟨v.toNat, by omega⟩
  obtain ⟨⟨t', M⟩, ⟨hM1, hM2⟩, hE2⟩ := along_l0 hc t h1 n [] 0 i2 s2 (by show 0 + n ≤ 100; omega) (by omega) (by omega) (by omega)
  obtain rfl : t' = t := hM1
  refine ⟨t', M, h1, hM2, ?_⟩
  unfold spec_DrawLeapAlong.f
  exact Ev.bind hE (evBind0 e2 hE2)
theorem rdI_ (l : List Int) (i : Nat) : rd l (i : Int) = l.getD i 0 := by unfold rd; rw [Int.toNat_natCast]
theorem has_l0 (x : Int) (l : List Int) (hl : l.length ≤ 100000) : ∀ (e i : Nat), i + e = l.length → Ev (fun k => laws_dHas.l0 k x l (l.length : Int) (i : Int)) (decide (x ∈ l.drop i)) := by
  intro e
  induction e with
  | zero =>
    intro i hi; refine Ev.step (fun k => by rw [laws_dHas.l0]) (evNeg (by omega) (evSome ?_)); rw [List.drop_of_length_le (by omega)]
    simp
  | succ e ih =>
    intro i hi; refine Ev.step (fun k => by rw [laws_dHas.l0]) ?_; rw [rdI_, i1r i (by omega), getD_drop_cons l i 0 (by omega)]; refine evPos (by omega) (evPos (by omega) (evPos (by omega) ?_))
    by_cases h : l.getD i 0 = x
    · exact evPos h (evSome (by rw [h]; simp))
    · refine evNeg h (evEq (ih (i + 1) (by omega)) ?_)
      exact decide_eq_decide.2 ⟨fun hh => List.mem_cons_of_mem _ hh, fun hh => (List.mem_cons.1 hh).resolve_left (fun e => h e.symm)⟩
theorem dHas_ev (x : Int) (l : List Int) (hl : l.length ≤ 100000) : Ev (fun k => laws_dHas.f k l x) (decide (x ∈ l)) := by
  unfold laws_dHas.f
  have := has_l0 x l hl l.length 0 (Nat.zero_add _)
  rw [List.drop_zero] at this
  exact this
theorem idx_l0 (x : Int) (l : List Int) (hl : l.length ≤ 100000) : ∀ (e i : Nat), i + e = l.length → ∃ v, (0 ≤ v ↔ x ∈ l.drop i) ∧ Ev (fun k => slices_Index_int.l0 k l x (l.length : Int) (i : Int)) v := by
  intro e
  induction e with
  | zero =>
    intro i hi; refine ⟨-1, ?_, Ev.step (fun k => by rw [slices_Index_int.l0]) (evNeg (by omega) (evSome rfl))⟩; rw [List.drop_of_length_le (by omega)]
    simp
  | succ e ih =>
    intro i hi
    by_cases h : x = l.getD i 0
    · refine ⟨(i : Int), ?_, ?_⟩
      · rw [getD_drop_cons l i 0 (by omega), ← h]
        simp
      · refine Ev.step (fun k => by rw [slices_Index_int.l0]) ?_
        rw [rdI_]; exact evPos (by omega) (evPos (by omega) (evPos (by omega) (evPos h (evSome rfl))))
    · obtain ⟨v, hv, hE⟩ := ih (i + 1) (by omega)
      refine ⟨v, ?_, ?_⟩
      · rw [hv, getD_drop_cons l i 0 (by omega), List.mem_cons]
        exact ⟨.inr, fun hh => hh.resolve_left h⟩
      · refine Ev.step (fun k => by rw [slices_Index_int.l0]) ?_
        rw [rdI_, i1r i (by omega)]; exact evPos (by omega) (evPos (by omega) (evPos (by omega) (evNeg h hE)))
theorem cont_ev (x : Int) (l : List Int) (hl : l.length ≤ 100000) : Ev (fun k => slices_Contains_int.f k l x) (decide (x ∈ l)) := by
  obtain ⟨v, hv, hE⟩ := idx_l0 x l hl l.length 0 (Nat.zero_add _)
  rw [List.drop_zero] at hv
  unfold slices_Contains_int.f slices_Index_int.f
  refine Ev.bind hE (evSome ?_)
  exact decide_eq_decide.2 hv
def alF (r : ByteArray) : Nat → List Int → Int × Bool
 | p, [] => ((p : Int), true)
 | p, x :: t => if 1 ≤ x ∧ (p : Int) + x ≤ ((r.size + 1 : Nat) : Int) ∧ pl r (p + x.toNat) = true then alF r (p + x.toNat) t else (0, false)
theorem mem_stL (r : ByteArray) (q : Nat) : ((q : Nat) : Int) ∈ ints (stL r) ↔ q ≤ r.size + 1 ∧ pl r q = true := by
  unfold ints stL
  rw [List.mem_map]
  constructor
  · rintro ⟨x, hx, he⟩
    obtain rfl : x = q := by omega
    obtain ⟨h1, h2⟩ := List.mem_filter.1 hx; exact ⟨by have := List.mem_range.1 h1; omega, h2⟩
  · rintro ⟨h1, h2⟩
    exact ⟨q, List.mem_filter.2 ⟨List.mem_range.2 (by omega), h2⟩, rfl⟩
theorem stL_len (r : ByteArray) : (ints (stL r)).length ≤ r.size + 2 := by
  unfold ints stL
  have := List.length_filter_le (pl r) (List.range (r.size + 2))
  rw [List.length_range] at this
  rw [List.length_map]
  exact this
theorem al_impl_l0 (r : ByteArray) (hr : r.size ≤ 100) (L : List Int) (hL : L.length ≤ 1000) : ∀ (e i p : Nat), i + e = L.length → p ≤ r.size + 1 → Ev (fun k => impl_LeapAlong.l0 k r (p : Int) (ints (stL r)) L (L.length : Int) (i : Int)) (alF r p (L.drop i)) := by
  intro e
  have hsl := stL_len r
  induction e with
  | zero =>
    intro i p hi hp; refine Ev.step (fun k => by rw [impl_LeapAlong.l0]) (evNeg (by omega) (evSome ?_)); rw [List.drop_of_length_le (by omega)]; rfl
  | succ e ih =>
    intro i p hi hp; refine Ev.step (fun k => by rw [impl_LeapAlong.l0]) ?_; rw [rdI_, i1r i (by omega), i1r r.size (by omega), getD_drop_cons L i 0 (by omega)]
    generalize L.getD i 0 = x
    refine evPos (by omega) (evPos (by omega) (evPos (by omega) (evBind0 (within_eq _ _ _) ?_))); unfold alF
    by_cases hx : 1 ≤ x ∧ x ≤ ((r.size + 1 : Nat) : Int)
    · have e1 : inB x 1 ((r.size + 1 : Nat) : Int) = true := by unfold inB; rw [decide_eq_true hx.1, decide_eq_true hx.2]; rfl
      rw [e1, w64 (x := (p : Int) + x) (by omega) (by omega)]; refine evPos rfl (Ev.bind (cont_ev ((p : Int) + x) (ints (stL r)) (by omega)) ?_); have hm := mem_stL r (p + x.toNat); rw [show ((p + x.toNat : Nat) : Int) = (p : Int) + x by omega] at hm
      by_cases hin : (p : Int) + x ∈ ints (stL r)
      · obtain ⟨h1, h2⟩ := hm.1 hin
        rw [decide_eq_true hin, if_pos ⟨hx.1, by omega, h2⟩]; have := ih (i + 1) (p + x.toNat) (by omega) h1; rw [show ((p + x.toNat : Nat) : Int) = (p : Int) + x by omega] at this; exact evPos rfl this
      · rw [decide_eq_false hin, if_neg (fun hh => hin (hm.2 ⟨by omega, hh.2.2⟩))]
        exact evNeg (by simp) (evSome rfl)
    · have e1 : inB x 1 ((r.size + 1 : Nat) : Int) = false := by
        unfold inB; rcases Decidable.em (1 ≤ x) with h | h
        · rw [decide_eq_false (show ¬ x ≤ ((r.size + 1 : Nat) : Int) from fun h2 => hx ⟨h, h2⟩), Bool.and_false]
        · rw [decide_eq_false h, Bool.false_and]
      rw [e1, if_neg (fun hh => hx ⟨hh.1, by omega⟩)]; exact evNeg (by simp) (evSome rfl)
theorem al_spec_l0 (r : ByteArray) (hr : r.size ≤ 100) (L : List Int) (hL : L.length ≤ 1000) : ∀ (e i p : Nat), i + e = L.length → p ≤ r.size + 1 → Ev (fun k => spec_LeapAlong.l0 k r (p : Int) ((r.size + 1 : Nat) : Int) L (L.length : Int) (i : Int)) (alF r p (L.drop i)) := by
  intro e
  induction e with
  | zero =>
    intro i p hi hp; refine Ev.step (fun k => by rw [spec_LeapAlong.l0]) (evNeg (by omega) (evSome ?_)); rw [List.drop_of_length_le (by omega)]; rfl
  | succ e ih =>
    intro i p hi hp; refine Ev.step (fun k => by rw [spec_LeapAlong.l0]) ?_; rw [rdI_, i1r i (by omega), w64 (x := ((r.size + 1 : Nat) : Int) - (p : Int)) (by omega) (by omega), getD_drop_cons L i 0 (by omega)]
    generalize L.getD i 0 = x
    refine evPos (by omega) (evPos (by omega) (evPos (by omega) (evBind0 (l1In_eq _ _ _) ?_))); unfold alF
    by_cases hx : 1 ≤ x ∧ x ≤ ((r.size + 1 : Nat) : Int) - (p : Int)
    · have e1 : inB x 1 (((r.size + 1 : Nat) : Int) - (p : Int)) = true := by unfold inB; rw [decide_eq_true hx.1, decide_eq_true hx.2]; rfl
      have hs := rvStand_eq r hr (p + x.toNat) (by omega); rw [show ((p + x.toNat : Nat) : Int) = (p : Int) + x by omega] at hs; rw [e1, w64 (x := (p : Int) + x) (by omega) (by omega)]; refine evPos rfl (evBind0 hs ?_)
      cases hpl : pl r (p + x.toNat) with
      | true =>
        rw [if_pos ⟨hx.1, by omega, rfl⟩]; have := ih (i + 1) (p + x.toNat) (by omega) (by omega); rw [show ((p + x.toNat : Nat) : Int) = (p : Int) + x by omega] at this; exact evPos rfl this
      | false =>
        rw [if_neg (fun hh => Bool.false_ne_true hh.2.2)]; exact evNeg (by simp) (evSome rfl)
    · have e1 : inB x 1 (((r.size + 1 : Nat) : Int) - (p : Int)) = false := by
        unfold inB; rcases Decidable.em (1 ≤ x) with h | h
        · rw [decide_eq_false (show ¬ x ≤ ((r.size + 1 : Nat) : Int) - (p : Int) from fun h2 => hx ⟨h, h2⟩), Bool.and_false]
        · rw [decide_eq_false h, Bool.false_and]
      rw [e1, if_neg (fun hh => hx ⟨hh.1, by omega⟩)]; exact evNeg (by simp) (evSome rfl)
def alongF (r : ByteArray) (L : List Int) : Int × Bool := if goodL r = true ∧ L.length ≤ 41 then alF r 0 L else (0, false)
theorem Along_impl (r : ByteArray) (L : List Int) (h : r.size ≤ 1000000) : Ev (fun k => impl_LeapAlong.f k r L) (alongF r L) := by
  have no : Ev (fun k => impl_LeapAlong.j0 k r L true) (0, false) := Ev.step (fun k => by rw [impl_LeapAlong.j0]) (evPos rfl (evSome rfl))
  unfold impl_LeapAlong.f alongF
  refine evBind0 (IsRiver_eq r (by omega)) ?_
  by_cases hg : goodL r = true
  · have h8 := goodL_len r hg
    refine evPos hg ?_
    by_cases hl : L.length ≤ 41
    · rw [if_pos ⟨hg, hl⟩, decide_eq_false (by omega)]
      refine Ev.step (fun k => by rw [impl_LeapAlong.j0]) (evNeg (by simp) (Ev.bind (stand_ev r (by omega)) ?_)); have := al_impl_l0 r (by omega) L (by omega) L.length 0 0 (Nat.zero_add _) (by omega); rw [List.drop_zero] at this; exact this
    · rw [if_neg (fun hh => hl hh.2), decide_eq_true (by omega)]
      exact no
  · rw [if_neg (fun hh => hg hh.1)]
    exact evNeg hg no
theorem Along_spec (r : ByteArray) (L : List Int) : Ev (fun k => spec_LeapAlong.f k r L) (alongF r L) := by
  have no : Ev (fun k => spec_LeapAlong.j0 k r L true) (0, false) := Ev.step (fun k => by rw [spec_LeapAlong.j0]) (evPos rfl (evSome rfl))
  unfold spec_LeapAlong.f alongF
  refine Ev.bind (rvGood_ev r) ?_
  by_cases hg : goodL r = true
  · have h8 := goodL_len r hg
    refine evPos hg ?_
    by_cases hl : L.length ≤ 41
    · rw [if_pos ⟨hg, hl⟩, decide_eq_false (by omega)]
      refine Ev.step (fun k => by rw [spec_LeapAlong.j0]) ?_; rw [i1r r.size (by omega)]; refine evNeg (by simp) ?_; have := al_spec_l0 r (by omega) L (by omega) L.length 0 0 (Nat.zero_add _) (by omega); rw [List.drop_zero] at this; exact this
    · rw [if_neg (fun hh => hl hh.2), decide_eq_true (by omega)]
      exact no
  · rw [if_neg (fun hh => hg hh.1)]
    exact evNeg hg no
theorem alF_sum (r : ByteArray) : ∀ (L : List Int) (p : Nat), (alF r p L).2 = true → (alF r p L).1 = (p : Int) + L.sum ∧ (∀ x ∈ L, 1 ≤ x) ∧ ∃ q : Nat, (alF r p L).1 = (q : Int) ∧ (L = [] ∧ q = p ∨ pl r q = true ∧ q ≤ r.size + 1)
 | [], p, _ => ⟨by simp [alF], fun x hx => (List.not_mem_nil hx).elim, p, rfl, .inl ⟨rfl, rfl⟩⟩
 | x :: t, p, h => by
  unfold alF at h ⊢
  by_cases hx : 1 ≤ x ∧ (p : Int) + x ≤ ((r.size + 1 : Nat) : Int) ∧ pl r (p + x.toNat) = true
  · rw [if_pos hx] at h ⊢
    obtain ⟨h1, h2, q, h3, h4⟩ := alF_sum r t (p + x.toNat) h; refine ⟨by rw [h1, List.sum_cons]; omega, fun y hy => ?_, q, h3, .inr ?_⟩
    · rcases List.mem_cons.1 hy with rfl | hy
      · exact hx.1
      · exact h2 y hy
    · rcases h4 with ⟨_, rfl⟩ | h4
      · exact ⟨hx.2.2, by omega⟩
      · exact h4
  · rw [if_neg hx] at h
    exact absurd h (by simp)
theorem Lf_zero {r : ByteArray} {a : Int} (hr : r.size ≤ 1000) {p : Nat} (hp : p ≤ r.size + 1) (h : Lf r a p = 0) : p = r.size + 1 := by
  by_cases he : p = r.size + 1
  · exact he
  · exfalso
    cases hb : pl r p with
    | false =>
      have := Lf_no (a := a) hr (show p ≤ r.size by omega) hb; omega
    | true =>
      rcases Lf_some (a := a) hr (show p ≤ r.size by omega) hb with ⟨h1, _⟩ | ⟨q, _, _, _, h4, h5, _⟩ <;> omega
theorem Lf_pl {r : ByteArray} {a : Int} (hr : r.size ≤ 1000) {p : Nat} (hp : p ≤ r.size + 1) (h : 0 ≤ Lf r a p) : pl r p = true := by
  by_cases he : p = r.size + 1
  · subst he
    simp [pl]
  · cases hb : pl r p with
    | true => rfl
    | false =>
      have := Lf_no (a := a) hr (show p ≤ r.size by omega) hb; omega
theorem mem_stoL (r : ByteArray) (q : Nat) (h1 : 1 ≤ q) (h2 : q ≤ r.size) : decide (((q : Nat) : Int) ∈ ints (stoL r)) = pl r q := by
  rw [Bool.eq_iff_iff, decide_eq_true_eq]
  unfold ints stoL
  rw [List.mem_map]
  constructor
  · rintro ⟨x, hx, he⟩
    obtain rfl : x = q := by omega
    exact (List.mem_filter.1 hx).2
  · exact fun h => ⟨q, List.mem_filter.2 ⟨List.mem_range'_1.2 ⟨by omega, by omega⟩, h⟩, rfl⟩
theorem stoI_len (r : ByteArray) : (ints (stoL r)).length ≤ r.size := by
  unfold ints
  rw [List.length_map]
  exact stoL_len r
theorem j11_ev {l1 : List Int} (ok : bytesOk l1) : Ev (fun k => laws_FnRiversCrossed.j11 k l1) true := by
  obtain ⟨t, a, n, ht, hD⟩ := drawBy_ok ok
  obtain ⟨s, L, hs, hL, hE⟩ := drawAlong_ok ok
  refine Ev.step (fun k => by rw [laws_FnRiversCrossed.j11]) ?_
  refine Ev.bind hD (Ev.bind (By_impl t a n (by omega)) (Ev.bind (By_spec t a n) (Ev.bind hE (Ev.bind (Along_impl s L (by omega)) (Ev.bind (Along_spec s L) ?_)))))
  refine evNeg (by simp) (evPos rfl (evNeg (by simp) (evPos rfl ?_)))
  show Ev (fun k => if (alongF s L).2 = true then _ else _) true
  by_cases hc : goodL s = true ∧ L.length ≤ 41
  · have e : alongF s L = alF s 0 L := if_pos hc
    have h8 := goodL_len s hc.1
    cases h2 : (alF s 0 L).2 with
    | false => exact evNeg (by rw [e, h2]; simp) (evSome rfl)
    | true =>
      obtain ⟨g1, g2, q, g3, g4⟩ := alF_sum s L 0 h2; rw [e, h2]; have hst : stoF s = (ints (stoL s), true) := if_pos hc.1
      have hq : L.sum ≤ 1000 := by
        rcases g4 with ⟨rfl, _⟩ | ⟨_, g5⟩
        · simp
        · omega
      refine evPos rfl (Ev.bind (Stones_impl s (by omega)) ?_); rw [hst]; refine evPos rfl (Ev.bind (dSum_ev L (by omega) (fun x hx => by have := g2 x hx; omega) (by omega)) ?_); refine evPos (by omega) ?_
      by_cases hz : (alF s 0 L).1 = 0
      · exact evPos hz (evSome rfl)
      · refine evNeg hz ?_
        rw [i1r s.size (by omega)]
        by_cases hz2 : (alF s 0 L).1 = ((s.size + 1 : Nat) : Int)
        · exact evPos hz2 (evSome rfl)
        · refine evNeg hz2 ?_
          have hpl : pl s q = true ∧ q ≤ s.size + 1 := by
            rcases g4 with ⟨rfl, rfl⟩ | g5
            · exact absurd g3 hz
            · exact g5
          have hl := stoI_len s; refine Ev.bind (dHas_ev _ _ (by dsimp only; omega)) ?_
          have : decide ((alF s 0 L).1 ∈ ints (stoL s)) = true := by
            rw [g3, mem_stoL s q (by omega) (by omega)]; exact hpl.1
          exact evPos this (evSome rfl)
  · have e : alongF s L = (0, false) := if_neg hc
    exact evNeg (by rw [e]; simp) (evSome rfl)
def difs : Int → List Int → List Int
 | _, [] => []
 | p, q :: t => (q - p) :: difs q t
theorem way_ints (r : ByteArray) (a : Int) (m p : Nat) : ints (wayL r a (m + 1) p) = ((nxP r a m p : Nat) : Int) :: ints (wayL r a m (nxP r a m p)) := rfl
theorem al_way {r : ByteArray} {a : Int} (hr : r.size ≤ 100) : ∀ (m p : Nat), p ≤ r.size + 1 → Lf r a p = (m : Int) → alF r p (difs (p : Int) (ints (wayL r a m p))) = (((r.size + 1 : Nat) : Int), true)
 | 0, p, hp, h => by
  have := Lf_zero (by omega) hp h
  subst this
  rfl
 | m + 1, p, hp, h => by
  obtain ⟨h1, h2, h3, h4, _⟩ := nxP_ok (show r.size ≤ 1000 by omega) hp h
  rw [way_ints]
  show (if 1 ≤ (((nxP r a m p : Nat) : Int) - (p : Int)) ∧ (p : Int) + (((nxP r a m p : Nat) : Int) - (p : Int)) ≤ ((r.size + 1 : Nat) : Int) ∧ pl r (p + (((nxP r a m p : Nat) : Int) - (p : Int)).toNat) = true then alF r (p + (((nxP r a m p : Nat) : Int) - (p : Int)).toNat) (difs ((nxP r a m p : Nat) : Int) (ints (wayL r a m (nxP r a m p)))) else (0, false)) = _
  rw [show p + (((nxP r a m p : Nat) : Int) - (p : Int)).toNat = nxP r a m p by omega]
  rw [if_pos ⟨by omega, by omega, Lf_pl (a := a) (by omega) h2 (by omega)⟩]
  exact al_way hr m _ h2 h4
theorem l3_ev {l1 : List Int} (ok : bytesOk l1) {r : ByteArray} {a : Int} (hq : askB r a = true) (X : List Int) (f : Nat) (hf : f ≤ 41) (hX : X.length = f + 1) (D : List Int) (hD : alongF r D = (((r.size + 1 : Nat) : Int), true)) :
    ∀ (m i p : Nat) (acc : List Int), i + m = f + 1 → 1 ≤ i → X.drop i = ints (wayL r a m p) → X.getD (i - 1) 0 = (p : Int) → p ≤ r.size + 1 → Lf r a p = (m : Int) → acc.length + 1 = i → acc ++ difs (p : Int) (ints (wayL r a m p)) = D → Ev (fun k => laws_FnRiversCrossed.l3 k l1 r a X (f : Int) (ints (stoL r)) ((r.size + 1 : Nat) : Int) acc (i : Int)) true := by
  obtain ⟨hg, h1, h2, h3, h4⟩ := askB_facts hq
  intro m
  induction m with
  | zero =>
    intro i p acc hi h5 hd hp hp2 hL ha he; refine Ev.step (fun k => by rw [laws_FnRiversCrossed.l3]) (evNeg (by omega) ?_)
    have e : acc = D := by
      rw [← he]
      show acc = acc ++ []
      rw [List.append_nil]
    rw [e]; refine Ev.bind (Along_impl r D (by omega)) ?_; rw [hD]; exact evPos rfl (evPos rfl (j11_ev ok))
  | succ m ih =>
    intro i p acc hi h5 hd hp hp2 hL ha he; obtain ⟨g1, g2, g3, g4, _⟩ := nxP_ok (show r.size ≤ 1000 by omega) hp2 hL; rw [way_ints] at hd he
    have hx : X.getD i 0 = ((nxP r a m p : Nat) : Int) := by
      have := getD_drop_cons X i 0 (by omega); rw [hd] at this; exact (List.cons.inj this).1.symm
    have hd2 : X.drop (i + 1) = ints (wayL r a m (nxP r a m p)) := by
      have := getD_drop_cons X i 0 (by omega); rw [hd] at this; exact (List.cons.inj this).2.symm
    have nxt := ih (i + 1) (nxP r a m p) (acc ++ [((nxP r a m p : Nat) : Int) - (p : Int)]) (by omega) (by omega) hd2 (by rw [Nat.add_sub_cancel]; exact hx) g2 g4 (by rw [List.length_append, List.length_singleton]; omega) (by
      rw [List.append_assoc]
      exact he)
    refine Ev.step (fun k => by rw [laws_FnRiversCrossed.l3]) ?_; rw [show wrap64 ((i : Int) - 1) = ((i - 1 : Nat) : Int) from (w64 (by omega) (by omega)).trans (by omega), rdI_, rdI_, hx, hp, i1r i (by omega), w64 (x := ((nxP r a m p : Nat) : Int) - (p : Int)) (by omega) (by omega)]; refine evPos (by omega) (evPos (by omega) (evPos (by omega) (evPos (by omega) (evNeg (by omega) (evNeg (by omega) ?_))))); have hl := stoI_len r
    by_cases hif : i < f
    · refine evPos (by omega) (Ev.bind (dHas_ev _ _ (by omega)) ?_)
      have hne : nxP r a m p ≠ r.size + 1 := fun e => by
        rw [e, Lf_end (by omega)] at g4; omega
      rw [mem_stoL r _ (by omega) (by omega), Lf_pl (a := a) (by omega) g2 (by omega)]; exact evPos rfl (evPos (by omega) nxt)
    · exact evNeg (by omega) (evPos (by omega) nxt)
theorem j9_ev {l1 : List Int} (ok : bytesOk l1) {r : ByteArray} {a : Int} (hq : askB r a = true) : Ev (fun k => laws_FnRiversCrossed.j9 k l1 r a (wayF r a).1 (wayF r a).2 (fewF r a).1 (lfT r a (r.size + 2)) (ints (stoL r)) ((r.size + 1 : Nat) : Int)) true := by
  obtain ⟨hg, h1, h2, h3, h4⟩ := askB_facts hq
  refine Ev.step (fun k => by rw [laws_FnRiversCrossed.j9]) ?_
  cases hc : canB r a with
  | false =>
    have e : wayF r a = ([], false) := if_neg (fun hh => by rw [hc] at hh; exact Bool.false_ne_true hh.2); rw [e]; exact evNeg (by simp) (j11_ev ok)
  | true =>
    have e : wayF r a = (0 :: ints (wayL r a (Lf r a 0).toNat 0), true) := if_pos ⟨hq, hc⟩; have e2 : fewF r a = (Lf r a 0, true) := if_pos ⟨hq, hc⟩; have h0 : 0 ≤ Lf r a 0 := of_decide_eq_true hc; have hb := Lf_bound (a := a) (show r.size ≤ 1000 by omega) 0 (by omega); obtain ⟨f, hf⟩ : ∃ f : Nat, Lf r a 0 = (f : Int) := ⟨(Lf r a 0).toNat, by omega⟩; have hw := wayL_len r a f 0
    have hlen : (0 :: ints (wayL r a f 0)).length = f + 1 := by
      rw [List.length_cons]; unfold ints; rw [List.length_map, hw]
    have hal := al_way (show r.size ≤ 100 by omega) f 0 (by omega) hf; rw [e, e2, hf, Int.toNat_natCast, lfT_len, i1r f (by omega)]; have e0 : rd (lfT r a (r.size + 2)) 0 = Lf r a 0 := rdLf r a 0; dsimp only; rw [e0, hlen]
    have hlast : rd (0 :: ints (wayL r a f 0)) (f : Int) = ((r.size + 1 : Nat) : Int) := by
      have key : ∀ (m p : Nat), p ≤ r.size + 1 → Lf r a p = (m : Int) → (((p : Nat) : Int) :: ints (wayL r a m p)).getD m 0 = ((r.size + 1 : Nat) : Int) := by
        intro m
        induction m with
        | zero =>
          intro p hp hL; have := Lf_zero (by omega) hp hL; subst this; rfl
        | succ m ih =>
          intro p hp hL; obtain ⟨_, g2, _, g4, _⟩ := nxP_ok (show r.size ≤ 1000 by omega) hp hL; rw [way_ints]; exact ih _ g2 g4
      rw [rdI_]; exact key f 0 (by omega) hf
    rw [hlast]
    have hD : alongF r (difs 0 (ints (wayL r a f 0))) = (((r.size + 1 : Nat) : Int), true) := by
      have hl : (difs 0 (ints (wayL r a f 0))).length ≤ 41 := by
        have key : ∀ (L : List Int) (p : Int), (difs p L).length = L.length := by
          intro L
          induction L with
          | nil => exact fun _ => rfl
          | cons x t ih => exact fun p => by show (difs x t).length + 1 = _; rw [ih, List.length_cons]
        rw [key]; rw [List.length_cons] at hlen; omega
      exact (if_pos ⟨hg, hl⟩).trans hal
    refine evPos rfl (evPos (by omega) (evPos hf.symm (evPos rfl (evPos (by omega) (evPos rfl (evPos (by omega) (evPos (by omega) (evPos rfl ?_)))))))); exact l3_ev ok hq (0 :: ints (wayL r a f 0)) f (by omega) hlen _ hD f 1 0 [] (by omega) (Nat.le_refl _) rfl rfl (by omega) hf rfl rfl
theorem rowOf_succ (k : Nat) (f : Nat → Int) : (rowOf (k + 1) f).sum = (rowOf k f).sum + f k := by
  have e : rowOf (k + 1) f = rowOf k f ++ [f k] := by
    unfold rowOf; rw [List.range_succ, List.map_append]; rfl
  rw [e, List.sum_append]
  simp
theorem rowOf_mono (f : Nat → Int) (h : ∀ k, 0 ≤ f k) (k : Nat) : ∀ d, (rowOf k f).sum ≤ (rowOf (k + d) f).sum
 | 0 => Int.le_refl _
 | d + 1 => by
  have h1 := rowOf_mono f h k d
  have h2 := h (k + d)
  rw [← Nat.add_assoc, rowOf_succ]
  omega
theorem rowOf_nn (f : Nat → Int) (h : ∀ k, 0 ≤ f k) : ∀ k, 0 ≤ (rowOf k f).sum
 | 0 => Int.le_refl _
 | k + 1 => by
  have h1 := rowOf_nn f h k
  have h2 := h k
  rw [rowOf_succ]
  omega
theorem ways_le {r : ByteArray} {a : Int} (ha : 1 ≤ a) (k : Nat) (hk : k < r.size + 2) : waysF r a k ≤ allN r a := by
  have hn : ∀ k, 0 ≤ waysF r a k := fun k => (ways_pos r a ha k).1.1
  have h1 := rowOf_mono (waysF r a) hn (k + 1) (r.size + 1 - k)
  rw [show k + 1 + (r.size + 1 - k) = r.size + 2 by omega, rowOf_succ] at h1
  have := rowOf_nn (waysF r a) hn k
  unfold allN
  omega
theorem can_all {r : ByteArray} (hr : r.size ≤ 1000) {a : Int} (ha : 1 ≤ a) : 0 ≤ Lf r a 0 ↔ 0 < allN r a := by
  constructor
  · intro h
    have hb := Lf_bound (a := a) hr 0 (by omega); have hw := Lf_way hr (r.size + 1) 0 (by omega) h; have h1 := (ways_pos r a ha (Lf r a 0).toNat).2.2 hw; have := ways_le (r := r) ha (Lf r a 0).toNat (by omega); omega
  · intro h
    by_cases hn : ∃ k, 0 < waysF r a k
    · obtain ⟨k, hk⟩ := hn
      exact (way_Lf hr k 0 ((ways_pos r a ha k).2.1 hk)).1
    · exfalso
      have hz : ∀ k, waysF r a k = 0 := fun k => by
        have h1 := (ways_pos r a ha k).1
        have h2 : ¬ 0 < waysF r a k := fun hh => hn ⟨k, hh⟩
        omega
      have : ∀ k, (rowOf k (waysF r a)).sum = 0 := by
        intro k
        induction k with
        | zero => rfl
        | succ k ih => rw [rowOf_succ, ih, hz k]; rfl
      have := this (r.size + 2); unfold allN at h; omega
section
variable {l1 : List Int} {r : ByteArray} {a : Int} {X : List Int} {okb : Bool} {few cnt : Int}
theorem l2_ev (hq : askB r a = true) (hall : allN r a ≤ 1000000000000000) (hfew : canB r a = true → few = Lf r a 0)
    (h9 : Ev (fun k => laws_FnRiversCrossed.j9 k l1 r a X okb few (lfT r a (r.size + 2)) (ints (stoL r)) ((r.size + 1 : Nat) : Int)) true) :
    ∀ (e k : Nat), k + e = r.size + 2 → Ev (fun n => laws_FnRiversCrossed.l2 n l1 r a X okb few (canB r a) (allN r a) (lfT r a (r.size + 2)) (ints (stoL r)) ((r.size + 1 : Nat) : Int) (rowOf k (waysF r a)).sum (k : Int)) true := by
  obtain ⟨hg, h1, h2, h3, h4⟩ := askB_facts hq
  have hn : ∀ k, 0 ≤ waysF r a k := fun k => (ways_pos r a h3 k).1.1
  intro e
  induction e with
  | zero =>
    intro k hk; refine Ev.step (fun k => by rw [laws_FnRiversCrossed.l2]) (evNeg (by omega) (evPos ?_ h9)); rw [show k = r.size + 2 by omega]; rfl
  | succ e ih =>
    intro k hk; have nxt := ih (k + 1) (by omega); have hw := ways_le (r := r) h3 k (by omega); have hs := rowOf_nn (waysF r a) hn k; have hs2 := rowOf_mono (waysF r a) hn (k + 1) (r.size + 1 - k); rw [show k + 1 + (r.size + 1 - k) = r.size + 2 by omega] at hs2; have hs3 : (rowOf (k + 1) (waysF r a)).sum ≤ allN r a := hs2; have hnk := hn k; rw [rowOf_succ] at nxt hs3; refine Ev.step (fun k => by rw [laws_FnRiversCrossed.l2]) ?_
    have e1 : cblF r a (k : Int) = (waysF r a k, true) := by
      unfold cblF ccF; rw [if_pos ⟨hq, by omega, by omega⟩, Int.toNat_natCast, if_neg (by omega)]
    rw [i1r k (by omega)]; refine evPos (by omega) (Ev.bind (By_impl r a (k : Int) (by omega)) ?_); rw [e1]; dsimp only; rw [w64 (x := (rowOf k (waysF r a)).sum + waysF r a k) (by omega) (by omega)]; refine evPos rfl (evNeg (by omega) ?_)
    cases hc : canB r a with
    | false =>
      rw [hc] at nxt; exact evNeg (by simp) nxt
    | true =>
      rw [hc] at nxt; have hf := hfew hc; have h0 : 0 ≤ Lf r a 0 := of_decide_eq_true hc; refine evPos rfl ?_
      by_cases hk1 : (k : Int) < few
      · have hz : waysF r a k = 0 := by
          have h5 : ¬ 0 < waysF r a k := fun hh => by
            have := (way_Lf (show r.size ≤ 1000 by omega) k 0 ((ways_pos r a h3 k).2.1 hh)).2; omega
          omega
        exact evPos hk1 (evPos hz (evNeg (by omega) nxt))
      · refine evNeg hk1 ?_
        by_cases hk2 : (k : Int) = few
        · refine evPos hk2 (evNeg ?_ nxt)
          have hw := Lf_way (show r.size ≤ 1000 by omega) (r.size + 1) 0 (by omega) h0; rw [show (Lf r a 0).toNat = k by omega] at hw; have := (ways_pos r a h3 k).2.2 hw; omega
        · exact evNeg hk2 nxt
theorem j7_ev (hq : askB r a = true) (five : Bool) (hcnt : five = true → cnt = allN r a ∧ allN r a ≤ 1000000000000000) (hfew : canB r a = true → few = Lf r a 0)
    (h9 : Ev (fun k => laws_FnRiversCrossed.j9 k l1 r a X okb few (lfT r a (r.size + 2)) (ints (stoL r)) ((r.size + 1 : Nat) : Int)) true) :
    Ev (fun n => if five = true then (laws_FnRiversCrossed.j7 n l1 r a X okb few (canB r a) cnt (lfT r a (r.size + 2)) (ints (stoL r)) ((r.size + 1 : Nat) : Int) (decide ((r.size : Int) ≤ 20))) else (laws_FnRiversCrossed.j7 n l1 r a X okb few (canB r a) cnt (lfT r a (r.size + 2)) (ints (stoL r)) ((r.size + 1 : Nat) : Int) false)) true := by
  cases five with
  | false => exact evNeg (by simp) (Ev.step (fun k => by rw [laws_FnRiversCrossed.j7]) (evNeg (by simp) h9))
  | true =>
    obtain ⟨rfl, hall⟩ := hcnt rfl; refine evPos rfl (Ev.step (fun k => by rw [laws_FnRiversCrossed.j7]) ?_)
    by_cases h20 : (r.size : Int) ≤ 20
    · exact evPos (decide_eq_true h20) (l2_ev hq hall hfew h9 (r.size + 2) 0 (by omega))
    · exact evNeg (by rw [decide_eq_false h20]; simp) h9
theorem l1_ev (hq : askB r a = true) (can five : Bool) (i : Nat) (hi : i ≤ r.size + 1)
    (h0 : Ev (fun n => laws_FnRiversCrossed.l0 n l1 r a X okb few can cnt five (lfT r a (r.size + 2)) (ints (stoL r)) ((r.size + 1 : Nat) : Int) (lfT r a (r.size + 2)) ((r.size + 2 : Nat) : Int) ((i + 1 : Nat) : Int)) true) :
    ∀ (e q : Nat), q + e = r.size + 2 → i < q → Ev (fun n => laws_FnRiversCrossed.l1 n l1 r a X okb few can cnt five (lfT r a (r.size + 2)) (ints (stoL r)) ((r.size + 1 : Nat) : Int) (i : Int) (Lf r a i) (pl r i) (q : Int) (lfT r a (r.size + 2)) ((r.size + 2 : Nat) : Int) (i : Int)) true := by
  obtain ⟨hg, h1, h2, h3, h4⟩ := askB_facts hq
  have out : ∀ q : Nat, Ev (fun n => laws_FnRiversCrossed.j6 n l1 r a X okb few can cnt five (lfT r a (r.size + 2)) (ints (stoL r)) ((r.size + 1 : Nat) : Int) (i : Int) (Lf r a i) (pl r i) (q : Int) (lfT r a (r.size + 2)) ((r.size + 2 : Nat) : Int) (i : Int) false) true := by
    intro q; refine Ev.step (fun k => by rw [laws_FnRiversCrossed.j6]) (evNeg (by simp) ?_); rw [i1r i (by omega)]; exact h0
  intro e
  induction e with
  | zero =>
    intro q hq1 hiq; exact Ev.step (fun k => by rw [laws_FnRiversCrossed.l1]) (evNeg (by omega) (out q))
  | succ e ih =>
    intro q hq1 hiq; refine Ev.step (fun k => by rw [laws_FnRiversCrossed.l1]) (evPos (by omega) ?_); rw [w64 (x := (i : Int) + a) (by omega) (by omega)]
    by_cases hqa : (q : Int) ≤ (i : Int) + a
    · rw [decide_eq_true hqa]
      have nxt := ih (q + 1) (by omega) (by omega); have hb := Lf_bound (a := a) (show r.size ≤ 1000 by omega) q (by omega); refine Ev.step (fun k => by rw [laws_FnRiversCrossed.j6]) (evPos rfl ?_); rw [rdLf, i1r q (by omega), lfT_len, w64 (x := Lf r a q + 1) (by omega) (by omega)]
      cases hp : pl r i with
      | false =>
        rw [hp] at nxt; exact evNeg (by simp) nxt
      | true =>
        rw [hp] at nxt; refine evPos rfl (evPos (by omega) (evPos (by omega) ?_))
        by_cases hL : Lf r a q ≥ 0
        · rcases Lf_some (a := a) (show r.size ≤ 1000 by omega) (show i ≤ r.size by omega) hp with ⟨_, g2⟩ | ⟨q', _, _, _, g4, g5, g6⟩
          · have := g2 q hiq (by omega) hqa
            omega
          · have := g6 q hiq (by omega) hqa (by omega)
            exact evPos hL (evNeg (by omega) (evNeg (by omega) nxt))
        · exact evNeg hL nxt
    · rw [decide_eq_false hqa]
      exact out q
theorem j3_ev (hq : askB r a = true) (can five : Bool) (i : Nat) (hi : i ≤ r.size + 1)
    (h0 : Ev (fun n => laws_FnRiversCrossed.l0 n l1 r a X okb few can cnt five (lfT r a (r.size + 2)) (ints (stoL r)) ((r.size + 1 : Nat) : Int) (lfT r a (r.size + 2)) ((r.size + 2 : Nat) : Int) ((i + 1 : Nat) : Int)) true) :
    Ev (fun n => laws_FnRiversCrossed.j3 n l1 r a X okb few can cnt five (lfT r a (r.size + 2)) (ints (stoL r)) ((r.size + 1 : Nat) : Int) (i : Int) (Lf r a i) (pl r i) (lfT r a (r.size + 2)) ((r.size + 2 : Nat) : Int) (i : Int)) true := by
  obtain ⟨hg, h1, h2, h3, h4⟩ := askB_facts hq
  have hb := Lf_bound (a := a) (show r.size ≤ 1000 by omega) i (by omega)
  have j4 : ∀ b, b = false → Ev (fun n => laws_FnRiversCrossed.j4 n l1 r a X okb few can cnt five (lfT r a (r.size + 2)) (ints (stoL r)) ((r.size + 1 : Nat) : Int) (i : Int) (Lf r a i) (pl r i) (lfT r a (r.size + 2)) ((r.size + 2 : Nat) : Int) (i : Int) b) true := by
    rintro b rfl; refine Ev.step (fun k => by rw [laws_FnRiversCrossed.j4]) (evNeg (by simp) ?_); rw [i1r i (by omega)]; exact l1_ev hq can five i hi h0 (r.size + 1 - i) (i + 1) (by omega) (by omega)
  refine Ev.step (fun k => by rw [laws_FnRiversCrossed.j3]) (evNeg (by omega) ?_)
  by_cases hn : Lf r a i ≥ 0
  · have hp := Lf_pl (a := a) (show r.size ≤ 1000 by omega) hi hn
    refine evPos hn (evPos hp ?_)
    by_cases hz : Lf r a i = 0
    · have he := Lf_zero (show r.size ≤ 1000 by omega) hi hz
      refine evPos hz (j4 _ ?_); rw [he]
      simp
    · exact evNeg hz (j4 _ rfl)
  · exact evNeg hn (evNeg (by omega) (j4 _ rfl))
theorem l0_ev (hq : askB r a = true) (five : Bool) (hcnt : five = true → cnt = allN r a ∧ allN r a ≤ 1000000000000000) (hfew : canB r a = true → few = Lf r a 0)
    (h9 : Ev (fun k => laws_FnRiversCrossed.j9 k l1 r a X okb few (lfT r a (r.size + 2)) (ints (stoL r)) ((r.size + 1 : Nat) : Int)) true) :
    ∀ (e i : Nat), i + e = r.size + 2 → Ev (fun n => laws_FnRiversCrossed.l0 n l1 r a X okb few (canB r a) cnt five (lfT r a (r.size + 2)) (ints (stoL r)) ((r.size + 1 : Nat) : Int) (lfT r a (r.size + 2)) ((r.size + 2 : Nat) : Int) (i : Int)) true := by
  obtain ⟨hg, h1, h2, h3, h4⟩ := askB_facts hq
  intro e
  induction e with
  | zero =>
    intro i hi; refine Ev.step (fun k => by rw [laws_FnRiversCrossed.l0]) (evNeg (by omega) ?_); exact j7_ev hq five hcnt hfew h9
  | succ e ih =>
    intro i hi; have j3 := j3_ev hq (canB r a) five i (by omega) (ih (i + 1) (by omega)); refine Ev.step (fun k => by rw [laws_FnRiversCrossed.l0]) (evPos (by omega) (evPos (by omega) (evPos (by rw [lfT_len]; omega) ?_))); rw [rdLf]
    by_cases hz : i = 0
    · have hp : pl r i = true := by rw [hz]; simp [pl]
      rw [hp] at j3; exact evPos (by omega) j3
    · refine evNeg (by omega) ?_
      by_cases he : i = r.size + 1
      · have hp : pl r i = true := by rw [he]; simp [pl]
        rw [hp] at j3; exact evPos (by omega) j3
      · have hl := stoI_len r
        refine evNeg (by omega) (Ev.bind (dHas_ev _ _ (by omega)) ?_); rw [mem_stoL r i (by omega) (by omega)]; exact j3
theorem j0_ev (ok : bytesOk l1) (hq : askB r a = true) (five : Bool) (hcnt : five = true → cnt = allN r a ∧ allN r a ≤ 1000000000000000) :
    Ev (fun k => laws_FnRiversCrossed.j0 k l1 r a (wayF r a).1 (wayF r a).2 (fewF r a).1 (canB r a) true cnt five ((farN r a.toNat (r.size + 1) : Nat) : Int) (lfT r a (r.size + 2)) (ints (stoL r)) false) true := by
  obtain ⟨hg, h1, h2, h3, h4⟩ := askB_facts hq
  have h9 := j9_ev ok hq
  have hfew : canB r a = true → (fewF r a).1 = Lf r a 0 := fun hc => by
    have e2 : fewF r a = (Lf r a 0, true) := if_pos ⟨hq, hc⟩; rw [e2]
  have hl0 := l0_ev hq five hcnt hfew h9 (r.size + 2) 0 (by omega)
  have hj1 : Ev (fun k => laws_FnRiversCrossed.j1 k l1 r a (wayF r a).1 (wayF r a).2 (fewF r a).1 (canB r a) cnt five (lfT r a (r.size + 2)) (ints (stoL r)) ((r.size + 1 : Nat) : Int) false) true := by
    refine Ev.step (fun k => by rw [laws_FnRiversCrossed.j1]) (evNeg (by simp) ?_); rw [lfT_len]; exact hl0
  obtain ⟨n, rfl⟩ : ∃ n : Nat, a = (n : Int) := ⟨a.toNat, by omega⟩
  have c1 : (canB r (n : Int) != decide ((n : Int) ≥ (gapN r).1)) = false := by
    have : decide ((n : Int) ≥ (gapN r).1) = canB r (n : Int) := decide_eq_decide.2 (gap_can (show r.size ≤ 1000 by omega) n); rw [this]
    simp
  have c2 : (canB r (n : Int) != (((farN r ((n : Int)).toNat (r.size + 1) : Nat) : Int) == ((r.size + 1 : Nat) : Int))) = false := by
    have : (((farN r ((n : Int)).toNat (r.size + 1) : Nat) : Int) == ((r.size + 1 : Nat) : Int)) = canB r (n : Int) := by
      rw [Int.toNat_natCast, Bool.eq_iff_iff, beq_iff_eq]; unfold canB; rw [decide_eq_true_eq, can_far (show r.size ≤ 1000 by omega) n]; omega
    rw [this]
    simp
  have c3 : five = true → (canB r (n : Int) != decide (cnt > 0)) = false := fun hf => by
    have : decide (cnt > 0) = canB r (n : Int) := by
      rw [(hcnt hf).1]; exact decide_eq_decide.2 (can_all (show r.size ≤ 1000 by omega) h3).symm
    rw [this]
    simp
  have c4 : (canB r (n : Int) != decide (Lf r (n : Int) 0 ≥ 0)) = false := by
    have : decide (Lf r (n : Int) 0 ≥ 0) = canB r (n : Int) := rfl; rw [this]
    simp
  have e0 : rd (lfT r (n : Int) (r.size + 2)) 0 = Lf r (n : Int) 0 := rdLf r n 0
  have hfin : Ev (fun k => if ((farN r ((n : Int)).toNat (r.size + 1) : Nat) : Int) = 0 then laws_FnRiversCrossed.j1 k l1 r (n : Int) (wayF r (n : Int)).1 (wayF r (n : Int)).2 (fewF r (n : Int)).1 (canB r (n : Int)) cnt five (lfT r (n : Int) (r.size + 2)) (ints (stoL r)) ((r.size + 1 : Nat) : Int) false else (if ((farN r ((n : Int)).toNat (r.size + 1) : Nat) : Int) = ((r.size + 1 : Nat) : Int) then laws_FnRiversCrossed.j1 k l1 r (n : Int) (wayF r (n : Int)).1 (wayF r (n : Int)).2 (fewF r (n : Int)).1 (canB r (n : Int)) cnt five (lfT r (n : Int) (r.size + 2)) (ints (stoL r)) ((r.size + 1 : Nat) : Int) false else ((laws_dHas.f k (ints (stoL r)) ((farN r ((n : Int)).toNat (r.size + 1) : Nat) : Int)).bind fun t492 => laws_FnRiversCrossed.j1 k l1 r (n : Int) (wayF r (n : Int)).1 (wayF r (n : Int)).2 (fewF r (n : Int)).1 (canB r (n : Int)) cnt five (lfT r (n : Int) (r.size + 2)) (ints (stoL r)) ((r.size + 1 : Nat) : Int) (!t492)))) true := by
    have hf1 := farN_le r ((n : Int)).toNat (r.size + 1); have hf2 := farN_pl r ((n : Int)).toNat (farN_idem r ((n : Int)).toNat (r.size + 1)); have hl := stoI_len r; refine evSplit (fun _ => hj1) (fun hz => evSplit (fun _ => hj1) (fun he => ?_)); refine Ev.bind (dHas_ev _ _ (by omega)) ?_; rw [mem_stoL r _ (by omega) (by omega), hf2]; exact hj1
  have hmid : Ev (fun k => if (((lfT r (n : Int) (r.size + 2)).length : Nat) : Int) = ((r.size + 2 : Nat) : Int) then (if 0 ≤ ((r.size + 1 : Nat) : Int) then (if ((r.size + 1 : Nat) : Int) < (((lfT r (n : Int) (r.size + 2)).length : Nat) : Int) then (if rd (lfT r (n : Int) (r.size + 2)) ((r.size + 1 : Nat) : Int) = 0 then (if 0 < (((lfT r (n : Int) (r.size + 2)).length : Nat) : Int) then (if (canB r (n : Int) != decide (rd (lfT r (n : Int) (r.size + 2)) 0 ≥ 0)) = true then none else (if ((farN r ((n : Int)).toNat (r.size + 1) : Nat) : Int) = 0 then laws_FnRiversCrossed.j1 k l1 r (n : Int) (wayF r (n : Int)).1 (wayF r (n : Int)).2 (fewF r (n : Int)).1 (canB r (n : Int)) cnt five (lfT r (n : Int) (r.size + 2)) (ints (stoL r)) ((r.size + 1 : Nat) : Int) false else (if ((farN r ((n : Int)).toNat (r.size + 1) : Nat) : Int) = ((r.size + 1 : Nat) : Int) then laws_FnRiversCrossed.j1 k l1 r (n : Int) (wayF r (n : Int)).1 (wayF r (n : Int)).2 (fewF r (n : Int)).1 (canB r (n : Int)) cnt five (lfT r (n : Int) (r.size + 2)) (ints (stoL r)) ((r.size + 1 : Nat) : Int) false else ((laws_dHas.f k (ints (stoL r)) ((farN r ((n : Int)).toNat (r.size + 1) : Nat) : Int)).bind fun t492 => laws_FnRiversCrossed.j1 k l1 r (n : Int) (wayF r (n : Int)).1 (wayF r (n : Int)).2 (fewF r (n : Int)).1 (canB r (n : Int)) cnt five (lfT r (n : Int) (r.size + 2)) (ints (stoL r)) ((r.size + 1 : Nat) : Int) (!t492))))) else none) else none) else none) else none) else none) true := by
    rw [lfT_len, rdLf, e0, Lf_end (show r.size ≤ 1000 by omega), c4]; exact evPos rfl (evPos (by omega) (evPos (by omega) (evPos rfl (evPos (by omega) (evNeg (by simp) hfin)))))
  refine Ev.step (fun k => by rw [laws_FnRiversCrossed.j0]) ?_
  rw [i1r r.size (by omega), i1r (r.size + 1) (by omega)]
  refine evNeg (by simp) (evPos rfl (Ev.bind (Least_impl r hg) (evPos rfl ?_)))
  dsimp only
  rw [c1, c2]
  refine evNeg (by simp) (evNeg (by simp) ?_)
  cases hf : five with
  | false =>
    rw [hf] at hmid; exact evNeg (by simp) hmid
  | true =>
    rw [c3 hf]; rw [hf] at hmid; exact evPos rfl (evNeg (by simp) hmid)
end
end Go.Proofs.YtfoflpomfmbjoaaDoor.X
end
section
namespace Go.Proofs.YtfoflpomfmbjoaaDoor.Pure
open Go.RowKit Go.Proofs.YtfoflpomfmbjoaaDoor.X Go.Proofs.YtfoflpomfmbjoaaDoorW.PrintWords Go.Proofs.YtfoflpomfmbjoaaDoorW.PrintLast
theorem big_f (l0 l1 : List Int) (h0 : l0.length ≤ 9000000000000000000) (h1 : l1.length ≤ 9000000000000000000) : ∃ b, laws_big.f l0 l1 = some b ∧ (b = false → l0.length ≤ 1048576 ∧ l1.length ≤ 1048576) := by
  unfold laws_big.f
  by_cases c : (l0.length : Int) > 1048576
  · rw [if_pos c]
    exact ⟨_, rfl, fun h => by cases h⟩
  · rw [if_neg c]
    refine ⟨_, rfl, fun h => ?_⟩; have h2 := of_decide_eq_false h; rw [w64 (by omega) (by omega)] at h2; omega
theorem FnRiversCrossed : laws_FnRiversCrossed.PureQ := by
  rintro l0 l1 ⟨hl0, hb0⟩ hm0 ⟨hl1, hb1⟩ hm1
  refine Ev.rounds ?_
  unfold laws_FnRiversCrossed.f
  obtain ⟨b, hb, hsz⟩ := big_f l0 l1 (by unfold maxLen at hl0; omega) (by unfold maxLen at hl1; omega)
  refine evBind0 hb ?_
  cases b with
  | true => exact evPos rfl (evSome rfl)
  | false =>
    obtain ⟨s0, s1⟩ := hsz rfl; have ok0 : bytesOk l0 := bytesOk_of hb0 s0; have ok1 : bytesOk l1 := bytesOk_of hb1 s1; obtain ⟨r, a, hr, hD⟩ := drawFirst_ok ok0
    have hR : r.size ≤ 1000000 := by omega
    refine evNeg (by simp) (Ev.bind hD ?_); dsimp only; refine Ev.bind (First_impl r a hR) (Ev.bind (First_spec r a) (Ev.bind (Few_impl r a hR) (Ev.bind (Few_spec r a) (Ev.bind (CanCross_impl r a hR) (Ev.bind (CanCross_spec r a) (Ev.bind (Count_impl r a hR) (Ev.bind (Count_spec r a) (Ev.bind (Reach_impl r a hR) (Ev.bind (Reach_spec r a) (Ev.bind (Left_impl r a hR) (Ev.bind (Left_spec r a) (Ev.bind (Stones_impl r hR) (Ev.bind (Stones_spec r) ?_)))))))))))))
    have hlw : (wayF r a).1.length ≤ 1000000 := by
      unfold wayF
      split
      · rename_i hh
        obtain ⟨_, h1, h2, h3, h4⟩ := askB_facts hh.1; have hb := Lf_bound (a := a) (show r.size ≤ 1000 by omega) 0 (by omega); dsimp only; rw [List.length_cons]; unfold ints; rw [List.length_map, wayL_len]; omega
      · simp
    have hll : (leftF r a).1.length ≤ 1000000 := by
      unfold leftF
      split
      · dsimp only
        rw [lfT_len]; omega
      · simp
    have hls : (stoF r).1.length ≤ 1000000 := by
      have := stoI_len r; unfold stoF
      split
      · dsimp only
        omega
      · simp
    refine evNeg (by simp) (Ev.bind (dSame_self _ (by omega)) (evPos rfl (evNeg (by simp) (evPos rfl (evNeg (by simp) (evNeg (by simp) (evNeg (by simp) (evPos rfl (evNeg (by simp) (evPos rfl (evNeg (by simp) (Ev.bind (dSame_self _ (by omega)) (evPos rfl (evNeg (by simp) (Ev.bind (dSame_self _ (by omega)) (evPos rfl (evBind0 (IsRiver_eq r (by omega)) ?_)))))))))))))))))
    have es : (stoF r).2 = goodL r := by
      unfold stoF; cases goodL r <;> rfl
    have hspec : Ev (fun k => spec_IsRiver.f k r) (goodL r) := by
      unfold spec_IsRiver.f; exact Ev.bind (rvGood_ev r) (evSome rfl)
    rw [es]; refine evNeg (by simp) (evBind0 (IsRiver_eq r (by omega)) (Ev.bind hspec (evNeg (by simp) ?_)))
    by_cases hq : askB r a = true
    · obtain ⟨hg, h1, h2, h3, h4⟩ := askB_facts hq
      have e1 : canF r a = (canB r a, true) := if_pos hq; have e2 : reachF r a = (((farN r a.toNat (r.size + 1) : Nat) : Int), true) := if_pos hq; have e3 : leftF r a = (lfT r a (r.size + 2), true) := if_pos hq; have e4 : stoF r = (ints (stoL r), true) := if_pos hg
      have e5 : (wayF r a).2 = canB r a := by
        unfold wayF
        cases hc : canB r a with
        | true => rw [if_pos ⟨hq, rfl⟩]
        | false => rw [if_neg (by simp)]
      have e6 : (fewF r a).2 = canB r a := by
        unfold fewF
        cases hc : canB r a with
        | true => rw [if_pos ⟨hq, rfl⟩]
        | false => rw [if_neg (by simp)]
      have hcnt : (cntF r a).2 = true → (cntF r a).1 = allN r a ∧ allN r a ≤ 1000000000000000 := by
        intro h; have h5 : 0 ≤ allN r a := rowOf_nn _ (fun k => (ways_pos r a h3 k).1.1) _; unfold cntF ccF at h ⊢; rw [if_pos hq] at h ⊢
        by_cases hm : mn (allN r a) 1000000000000001 > 1000000000000000
        · rw [if_pos hm] at h
          exact absurd h (by simp)
        · rw [if_neg hm]
          have hv : mn (allN r a) 1000000000000001 = allN r a := by
            revert hm
            unfold mn
            split <;> intro hm <;> omega
          dsimp only; rw [hv] at hm ⊢; exact ⟨rfl, by omega⟩
      have hj := j0_ev ok1 hq (cntF r a).2 hcnt; rw [e1, e2, e3, e4, e5, e6, hg]; rw [e5] at hj; refine evPos rfl (evNeg (by simp) (evNeg (by simp) (evNeg (by simp) (evNeg (by simp) ?_))))
      cases hc : (cntF r a).2 with
      | true =>
        rw [hc] at hj; exact evPos rfl hj
      | false =>
        rw [hc] at hj; exact evNeg (by simp) hj
    · have e1 : canF r a = (false, false) := if_neg hq
      have e2 : reachF r a = (0, false) := if_neg hq; have e3 : leftF r a = ([], false) := if_neg hq; have e5 : wayF r a = ([], false) := if_neg (fun hh => hq hh.1); have e6 : fewF r a = (0, false) := if_neg (fun hh => hq hh.1); have e7 : cntF r a = (0, false) := if_neg hq; rw [e1, e2, e3, e5, e6, e7]; refine evNeg (by simp) (evNeg (by simp) (evNeg (by simp) (evNeg (by simp) (evNeg (by simp) (evNeg (by simp) ?_))))); refine Ev.step (fun k => by rw [laws_FnRiversCrossed.j0]) (evNeg (by simp) (evNeg (by simp) ?_)); refine Ev.step (fun k => by rw [laws_FnRiversCrossed.j9]) (evNeg (by simp) (j11_ev ok1))
end Go.Proofs.YtfoflpomfmbjoaaDoor.Pure
end
section
set_option linter.unusedVariables false
namespace Go.Proofs.YtfoflpomfmbjoaaDoor.Open
open Go.ChangeShapes Go.WideShapes Go.Deep Go.RowKit Go.Proofs.YtfoflpomfmbjoaaDoorW.PrintWords
structure Opens {α : Type} (P : Program) (t : TypeId) (d : Kd α) (wf : α → Prop) : Prop where
  intro ::
  size : P.cellsOf t = d.sz
  all : ∀ (H : Type) (enc : TypeId × Value → H) (w : World) (base : Nat) (spare : Nat → Bool) (held : Bool) (fuel : Nat) (cs : List Value) (x : DataW H × List MemPlace),
    DataW.trod enc P w base spare held fuel t cs = some x → ∃ a : α, d.K w a cs ∧ wf a
theorem opens_int {P : Program} {t : TypeId} {k : IntKind} (ht : P.underlying t = some (.int k)) (hc : P.cellsOf t = 1) : Opens P t (Kd.int k) (fun n => (Lit.int k n).wf = true) := by
  refine ⟨hc, fun H enc w base spare held fuel cs x h => ?_⟩
  obtain ⟨n, rfl, _, hw⟩ := DataW.trod_int ht h
  exact ⟨n, rfl, hw⟩
theorem choose_list {α : Type} {Q : Nat → α → Prop} : ∀ (n : Nat), (∀ i, i < n → ∃ a, Q i a) → ∃ l : List α, l.length = n ∧ ∀ i a, l[i]? = some a → Q i a
  | 0, _ => ⟨[], rfl, fun i a h => by simp at h⟩
  | n + 1, h => by
    obtain ⟨l, hl, hq⟩ := choose_list n (fun i hi => h i (by omega)); obtain ⟨a, ha⟩ := h n (by omega); refine ⟨l ++ [a], by simp [hl], fun i b hb => ?_⟩
    by_cases hi : i < l.length
    · rw [List.getElem?_append_left hi] at hb
      exact hq i b hb
    · rw [List.getElem?_append_right (by omega)] at hb
      by_cases e : i - l.length = 0
      · rw [e] at hb
        simp at hb
        subst hb
        have : i = n := by omega
        rw [this]; exact ha
      · rw [List.getElem?_singleton, if_neg e] at hb
        cases hb
theorem cells?_at {w : World} {base : Nat} {a : Addr} {n : Nat} {cs : List Value} (h : w.cells? base a n = some cs) : cs.length = n ∧ ∀ i u, cs[i]? = some u → w.cell? (a.add i) = some u := by
  obtain ⟨_, hl, hat⟩ := World.cells?_some h
  refine ⟨hl, fun i u hi => ?_⟩
  have : i < n := by rw [← hl]; exact (List.getElem?_eq_some_iff.1 hi).1
  rw [hat i this]
  exact hi
theorem opens_slice {α : Type} {P : Program} {t e : TypeId} {d : Kd α} {wf : α → Prop} (ht : P.underlying t = some (.slice e)) (hc : P.cellsOf t = 1) (he : Opens P e d wf) : Opens P t (Kd.slice e d) (fun l => l.length ≤ maxLen ∧ ∀ x ∈ l, wf x) := by
  refine ⟨hc, fun H enc w base spare held fuel cs x h => ?_⟩
  rcases open_slice ht h with ⟨rfl, _⟩ | ⟨a, len, cap, m, n, D, Pl, rfl, _, hl, hm, hmm, _, hi⟩
  · exact ⟨[], ⟨none, 0, rfl, by simp, Kd.C_nil d w⟩, by simp, by simp⟩
  · have hlm : len ≤ m := by rw [hmm]; split <;> omega
    obtain ⟨l, hll, hq⟩ := choose_list (Q := fun i (b : α) => ∃ c, c.length = d.sz ∧ d.K w b c ∧ wf b ∧ ∀ j u, c[j]? = some u → w.cell? (a.add (i * d.sz + j)) = some u) len (fun i hil => by
      obtain ⟨cs', h1, h2⟩ := hi i (by omega); obtain ⟨hl1, hat⟩ := cells?_at h1; obtain ⟨b, hK, hwf⟩ := he.2 _ _ _ _ _ _ _ _ _ h2; refine ⟨b, cs', by rw [hl1, he.1], hK, hwf, fun j u hj => ?_⟩; have := hat j u hj; rw [Go.Deep.add_add, he.1] at this
      exact this)
    refine ⟨l, ⟨some a, cap, by rw [hll], by omega, ⟨rfl, by rw [hll]; unfold maxLen at hm; omega, fun _ => ⟨a, rfl, fun j p hp => ?_⟩⟩⟩, by rw [hll]; omega, fun x hx => ?_⟩
    · obtain ⟨c, h1, h2, _, h4⟩ := hq j p hp
      exact ⟨c, h1, h2, h4⟩
    · obtain ⟨i, hi⟩ := List.getElem?_of_mem hx
      obtain ⟨c, _, _, h3, _⟩ := hq i x hi; exact h3
structure OpensFs {α : Type} (P : Program) (fs : List Field) (o : Nat) (d : Kd α) (wf : α → Prop) : Prop where
  intro ::
  all : ∀ (H : Type) (enc : TypeId × Value → H) (w : World) (base : Nat) (spare : Nat → Bool) (held : Bool) (n : Nat) (cs : List Value), cs.length = o + d.sz →
    (∀ (i : Nat) (f : Field), fs[i]? = some f → ∃ y, DataW.trod enc P w base spare held n f.type ((cs.drop f.offset).take (P.cellsOf f.type)) = some y) → ∃ a : α, d.K w a (cs.drop o) ∧ wf a
theorem opens_arg {H α : Type} {enc : TypeId × Value → H} {P : Program} {W : World} {base : Nat} {spare : Nat → Bool} {held : Bool} {t : TypeId} {v : Value} {x : DataW H} {ps : List MemPlace} {d : Kd α} {wf : α → Prop} (ho : Opens P t d wf) (h : DataW.Trod enc P W base spare held t v x ps) : ∃ a : α, d.K W a v.cells.toList ∧ wf a := by
  obtain ⟨fuel, hf⟩ := h
  exact ho.2 _ _ _ _ _ _ _ _ _ hf
theorem trod_lt_arg {H : Type} {enc : TypeId × Value → H} {P : Program} {W : World} {base : Nat} {spare : Nat → Bool} {held : Bool} {t : TypeId} {v : Value} {x : DataW H} {ps : List MemPlace} (h : DataW.Trod enc P W base spare held t v x ps) : ∀ y ∈ ps, y.block < W.heap.size := by
  obtain ⟨m, hm⟩ := h
  exact DataW.trod_lt m _ _ _ hm
end Go.Proofs.YtfoflpomfmbjoaaDoor.Open
end
