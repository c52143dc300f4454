import Derived.Test.YtfoflpomfmbjoaaDoorP1
import Derived.Test.YtfoflpomfmbjoaaDoorP4
import Derived.Test.YtfoflpomfmbjoaaDoorP5
import Derived.Test.YtfoflpomfmbjoaaDoorP6
import Derived.Test.YtfoflpomfmbjoaaDoorP9
import Derived.Test.YtfoflpomfmbjoaaDoorP16
import Derived.Test.YtfoflpomfmbjoaaDoorP17
import Derived.Test.YtfoflpomfmbjoaaDoorP18
import Derived.Test.YtfoflpomfmbjoaaDoorP20
import Derived.Test.YtfoflpomfmbjoaaDoorP21
import Derived.ChangeArms
import Derived.Deep.Slices
import Derived.WideShapes
import Derived.Carry
section
namespace Go.Proofs.YtfoflpomfmbjoaaDoor.X
open Go.Proofs.YtfoflpomfmbjoaaDoor.Sq Go.RowKit Go.Proofs.YtfoflpomfmbjoaaDoorW.PrintWords Go.Proofs.YtfoflpomfmbjoaaDoorW.PrintLast Go.Proofs.YtfoflpomfmbjoaaDoorW.PrintMore
attribute [local go_sem] max2_int min2_int max_two min_two max_three min_three max_four min_four   -- for this text's walks alone
set_option linter.unusedVariables false
set_option linter.unusedSimpArgs false
theorem drawOf {c : List Int} (hc : bytesOk c) (i s : Int) (l : List ByteArray) (h0 : 0 ≤ i) (hB : i ≤ 1000000000) (hl : 1 ≤ l.length) (hl2 : l.length ≤ 1000) : ∃ v i' s', spec_l1Cur_of.f c i s l = some (v, i', s') ∧ i ≤ i' ∧ i' ≤ i + 2 ∧ v ∈ l := by
  obtain ⟨v, i', s', e, v0, v1, _, h1, h2⟩ := pick_ok hc i s (l.length : Int) h0 hB (by omega)
  unfold spec_l1Cur_of.f
  have v2 := v1 (by omega)
  rw [e]
  simp only [Option.bind_some]
  rw [if_pos v0, if_pos v2]
  refine ⟨_, _, _, rfl, h1, h2, ?_⟩
  unfold rdOf
  rw [List.getD_eq_getElem?_getD, List.getElem?_eq_getElem (show v.toNat < l.length by omega)]
  exact List.getElem_mem _
theorem strOne (x : Int) : (strOfNums [x]).size = 1 := by rw [strOfNums_size]; rfl
theorem spoilt_l0 {c : List Int} (hc : bytesOk c) (W : ByteArray) (hW : 1 ≤ W.size) (hW2 : W.size ≤ 1000) (T : Int) (hT : T ≤ 100000000) : ∀ (e : Nat) (t : ByteArray) (i s : Int), e ≤ 100 → t.size + e ≤ 1000000 → 0 ≤ i → i + 6 * (e : Int) ≤ T → ∃ t' i' s', t'.size ≤ t.size + e ∧ i ≤ i' ∧ i' ≤ i + 6 * (e : Int) ∧ Ev (fun k => spec_l1Cur_spoilt.l0 k t W (e : Int) c i s) (t', i', s') := by
  intro e
  induction e with
  | zero =>
    intro t i s he ht h0 hi
    refine ⟨t, i, s, by omega, by omega, by omega, ?_⟩
    refine Ev.step (fun k => by rw [spec_l1Cur_spoilt.l0]) (evNeg (by omega) ?_)
    refine Ev.step (fun k => by rw [spec_l1Cur_spoilt.j1]) (evNeg (by simp) (evSome rfl))
  | succ e ih =>
    intro t i s he ht h0 hi
    by_cases hz : t.size = 0
    · refine ⟨t, i, s, by omega, by omega, by omega, ?_⟩
      refine Ev.step (fun k => by rw [spec_l1Cur_spoilt.l0]) (evPos (by omega) ?_)
      rw [decide_eq_false (by omega)]
      refine Ev.step (fun k => by rw [spec_l1Cur_spoilt.j1]) (evNeg (by simp) (evSome rfl))
    · obtain ⟨v, i1, s1, e1, v0, v1, _, g1, g2⟩ := pick_ok hc i s (t.size : Int) h0 (by omega) (by omega)
      have v2 := v1 (by omega)
      obtain ⟨w, i2, s2, e2, w0, w1, _, g3, g4⟩ := pick_ok hc i1 s1 (W.size : Int) (by omega) (by omega) (by omega)
      have w2 := w1 (by omega)
      obtain ⟨x, i3, s3, e3, _, _, _, g5, g6⟩ := pick_ok hc i2 s2 3 (by omega) (by omega) (by omega)
      obtain ⟨n, rfl⟩ : ∃ n : Nat, v = (n : Int) := ⟨v.toNat, by omega⟩
      have st : ∀ R, Ev (fun k => if x = 0 then (if 0 ≤ (n : Int) then (if (n : Int) ≤ (t.size : Int) then (if (t.extract 0 n).size + (strOfNums [bt W w]).size ≤ 9223372036854775807 then (if ((t.extract 0 n) ++ (strOfNums [bt W w])).size + (t.extract n t.size).size ≤ 9223372036854775807 then spec_l1Cur_spoilt.l0 k (((t.extract 0 n) ++ (strOfNums [bt W w])) ++ (t.extract n t.size)) W (e : Int) c i3 s3 else none) else none) else none) else none) else (if x = 1 then (if 0 ≤ (n : Int) then (if (n : Int) ≤ (t.size : Int) then (if (t.extract 0 n).size + (strOfNums [bt W w]).size ≤ 9223372036854775807 then (if 0 ≤ ((n + 1 : Nat) : Int) then (if ((n + 1 : Nat) : Int) ≤ (t.size : Int) then (if ((t.extract 0 n) ++ (strOfNums [bt W w])).size + (t.extract (n + 1) t.size).size ≤ 9223372036854775807 then spec_l1Cur_spoilt.l0 k (((t.extract 0 n) ++ (strOfNums [bt W w])) ++ (t.extract (n + 1) t.size)) W (e : Int) c i3 s3 else none) else none) else none) else none) else none) else none) else (if 0 ≤ (n : Int) then (if (n : Int) ≤ (t.size : Int) then (if 0 ≤ ((n + 1 : Nat) : Int) then (if ((n + 1 : Nat) : Int) ≤ (t.size : Int) then (if (t.extract 0 n).size + (t.extract (n + 1) t.size).size ≤ 9223372036854775807 then spec_l1Cur_spoilt.l0 k ((t.extract 0 n) ++ (t.extract (n + 1) t.size)) W (e : Int) c i3 s3 else none) else none) else none) else none) else none))) R → Ev (fun k => spec_l1Cur_spoilt.l0 k t W ((e + 1 : Nat) : Int) c i s) R := by
        intro R hR
        refine Ev.step (fun k => by rw [spec_l1Cur_spoilt.l0]) (evPos (by omega) ?_)
        rw [decide_eq_true (by omega)]
        refine Ev.step (fun k => by rw [spec_l1Cur_spoilt.j1]) (evPos rfl (evBind0 e1 (evBind0 e2 (evPos w0 (evPos w2 ?_)))))
        refine evBind0 rfl ?_
        refine evBind0 e3 ?_
        rw [show wrap64 (((e + 1 : Nat) : Int) - 1) = ((e : Nat) : Int) from (w64 (by omega) (by omega)).trans (by omega), show wrap64 ((n : Int) + 1) = ((n + 1 : Nat) : Int) from (w64 (by omega) (by omega)).trans (by omega), Int.toNat_natCast, Int.toNat_natCast]
        exact hR
      have q1 : (t.extract 0 n).size = n := by rw [ByteArray.size_extract]; omega
      have q2 : (t.extract n t.size).size = t.size - n := by rw [ByteArray.size_extract]; omega
      have q3 : (t.extract (n + 1) t.size).size = t.size - (n + 1) := by rw [ByteArray.size_extract]; omega
      have q4 := strOne (bt W w)
      by_cases c0 : x = 0
      · obtain ⟨t', i', s', k1, k2, k3, hE⟩ := ih (((t.extract 0 n) ++ (strOfNums [bt W w])) ++ (t.extract n t.size)) i3 s3 (by omega) (by rw [ByteArray.size_append, ByteArray.size_append]; omega) (by omega) (by omega)
        rw [ByteArray.size_append, ByteArray.size_append] at k1
        exact ⟨t', i', s', by omega, by omega, by omega, st _ (evPos c0 (evPos (by omega) (evPos (by omega) (evPos (by omega) (evPos (by rw [ByteArray.size_append]; omega) hE)))))⟩
      · by_cases c1 : x = 1
        · obtain ⟨t', i', s', k1, k2, k3, hE⟩ := ih (((t.extract 0 n) ++ (strOfNums [bt W w])) ++ (t.extract (n + 1) t.size)) i3 s3 (by omega) (by rw [ByteArray.size_append, ByteArray.size_append]; omega) (by omega) (by omega)
          rw [ByteArray.size_append, ByteArray.size_append] at k1
          exact ⟨t', i', s', by omega, by omega, by omega, st _ (evNeg c0 (evPos c1 (evPos (by omega) (evPos (by omega) (evPos (by omega) (evPos (by omega) (evPos (by omega) (evPos (by rw [ByteArray.size_append]; omega) hE))))))))⟩
        · obtain ⟨t', i', s', k1, k2, k3, hE⟩ := ih ((t.extract 0 n) ++ (t.extract (n + 1) t.size)) i3 s3 (by omega) (by rw [ByteArray.size_append]; omega) (by omega) (by omega)
          rw [ByteArray.size_append] at k1
          exact ⟨t', i', s', by omega, by omega, by omega, st _ (evNeg c0 (evNeg c1 (evPos (by omega) (evPos (by omega) (evPos (by omega) (evPos (by omega) (evPos (by omega) hE)))))))⟩
theorem spoilt_ok {c : List Int} (hc : bytesOk c) (t W : ByteArray) (hW : 1 ≤ W.size) (hW2 : W.size ≤ 1000) (ht : t.size ≤ 900000) (i s : Int) (h0 : 0 ≤ i) (hi : i ≤ 10000000) : ∃ t' i' s', t'.size ≤ t.size + 2 ∧ i ≤ i' ∧ i' ≤ i + 14 ∧ Ev (fun k => spec_l1Cur_spoilt.f k c i s t W) (t', i', s') := by
  obtain ⟨v, i1, s1, e1, v0, v1, _, g1, g2⟩ := pick_ok hc i s 2 h0 (by omega) (by omega)
  have v2 := v1 (by omega)
  obtain ⟨n, hn2⟩ : ∃ n : Nat, 1 + v = (n : Int) := ⟨(1 + v).toNat, by omega⟩
  obtain ⟨t', i', s', k1, k2, k3, hE⟩ := spoilt_l0 hc W hW hW2 100000000 (by omega) n t i1 s1 (by omega) (by omega) (by omega) (by omega)
  refine ⟨t', i', s', by omega, by omega, by omega, ?_⟩
  unfold spec_l1Cur_spoilt.f
  refine evBind0 e1 ?_
  rw [show wrap64 (1 + v) = (n : Int) from (w64 (by omega) (by omega)).trans hn2]
  exact hE
theorem sureR_l0 {c : List Int} (hc : bytesOk c) : ∀ (e : Nat) (t : ByteArray) (i s : Int), t.size + e ≤ 1000 → 0 ≤ i → i + 2 * (e : Int) ≤ 1000000000 → ∃ t' i' s', t'.size ≤ t.size + e ∧ i ≤ i' ∧ i' ≤ i + 2 * (e : Int) ∧ Ev (fun k => spec_l1Cur_sureRiver.l0 k t (e : Int) c i s) (t', i', s') := by
  intro e
  induction e with
  | zero =>
    intro t i s ht h0 hi
    exact ⟨t, i, s, by omega, by omega, by omega, Ev.step (fun k => by rw [spec_l1Cur_sureRiver.l0]) (evNeg (by omega) (evSome rfl))⟩
  | succ e ih =>
    intro t i s ht h0 hi
    obtain ⟨v, i1, s1, e1, g1, g2, hv⟩ := drawOf hc i s [(⟨#[111]⟩ : ByteArray), (⟨#[111]⟩ : ByteArray), (⟨#[46]⟩ : ByteArray)] h0 (by omega) (by simp) (by simp)
    have hs : v.size = 1 := by
      simp only [List.mem_cons, List.not_mem_nil, or_false] at hv
      rcases hv with rfl | rfl | rfl <;> rfl
    obtain ⟨t', i', s', k1, k2, k3, hE⟩ := ih (t ++ v) i1 s1 (by rw [ByteArray.size_append]; omega) (by omega) (by omega)
    rw [ByteArray.size_append] at k1
    refine ⟨t', i', s', by omega, by omega, by omega, ?_⟩
    refine Ev.step (fun k => by rw [spec_l1Cur_sureRiver.l0]) ?_
    rw [show wrap64 (((e + 1 : Nat) : Int) - 1) = ((e : Nat) : Int) from (w64 (by omega) (by omega)).trans (by omega)]
    exact evPos (by omega) (evBind0 e1 (evPos (by dsimp only; omega) hE))
theorem sureR_ok {c : List Int} (hc : bytesOk c) (m : Int) (hm : 1 ≤ m) (hm2 : m ≤ 100) (i s : Int) (h0 : 0 ≤ i) (hi : i ≤ 100000000) : ∃ t i' s', (t.size : Int) ≤ m ∧ i ≤ i' ∧ i' ≤ i + 2 + 2 * m ∧ Ev (fun k => spec_l1Cur_sureRiver.f k c i s m) (t, i', s') := by
  obtain ⟨v, i1, s1, e1, v0, v1, _, g1, g2⟩ := pick_ok hc i s m h0 (by omega) (by omega)
  have v2 := v1 (by omega)
  obtain ⟨n, hn⟩ : ∃ n : Nat, 1 + v = (n : Int) := ⟨(1 + v).toNat, by omega⟩
  obtain ⟨t', i', s', k1, k2, k3, hE⟩ := sureR_l0 hc n (⟨#[]⟩ : ByteArray) i1 s1 (by show 0 + n ≤ 1000; omega) (by omega) (by omega)
  have z : (⟨#[]⟩ : ByteArray).size = 0 := rfl
  rw [z] at k1
  refine ⟨t', i', s', by omega, by omega, by omega, ?_⟩
  unfold spec_l1Cur_sureRiver.f
  refine evBind0 e1 ?_
  rw [w64 (x := 1 + v) (by omega) (by omega), hn]
  exact hE
theorem riv_l0 {c : List Int} (hc : bytesOk c) : ∀ (e : Nat) (t : ByteArray) (i s : Int), 40 ≤ t.size + e → t.size ≤ 100 → e ≤ 1000 → 0 ≤ i → i + 2 * (e : Int) ≤ 1000000000 → ∃ t' i' s', t'.size ≤ 100 ∧ i ≤ i' ∧ i' ≤ i + 2 * (e : Int) ∧ Ev (fun k => spec_l1Cur_river.l0 k t c i s) (t', i', s') := by
  intro e
  induction e with
  | zero =>
    intro t i s ht ht2 he h0 hi
    exact ⟨t, i, s, by omega, by omega, by omega, Ev.step (fun k => by rw [spec_l1Cur_river.l0]) (evNeg (by omega) (evSome rfl))⟩
  | succ e ih =>
    intro t i s ht ht2 he h0 hi
    by_cases h40 : t.size < 40
    · obtain ⟨v, i1, s1, e1, g1, g2, hv⟩ := drawOf hc i s [(⟨#[111]⟩ : ByteArray), (⟨#[46]⟩ : ByteArray)] h0 (by omega) (by simp) (by simp)
      have hs : v.size = 1 := by
        simp only [List.mem_cons, List.not_mem_nil, or_false] at hv
        rcases hv with rfl | rfl <;> rfl
      obtain ⟨t', i', s', k1, k2, k3, hE⟩ := ih (t ++ v) i1 s1 (by rw [ByteArray.size_append]; omega) (by rw [ByteArray.size_append]; omega) (by omega) (by omega) (by omega)
      refine ⟨t', i', s', k1, by omega, by omega, ?_⟩
      refine Ev.step (fun k => by rw [spec_l1Cur_river.l0]) (evPos (by omega) (evBind0 e1 ?_))
      exact evPos (by dsimp only; omega) hE
    · exact ⟨t, i, s, by omega, by omega, by omega, Ev.step (fun k => by rw [spec_l1Cur_river.l0]) (evNeg (by omega) (evSome rfl))⟩
theorem river_ok {c : List Int} (hc : bytesOk c) (i s : Int) (h0 : 0 ≤ i) (hi : i ≤ 1000000) : ∃ t i' s', t.size ≤ 100 ∧ i ≤ i' ∧ i' ≤ i + 200 ∧ Ev (fun k => spec_l1Cur_river.f k c i s) (t, i', s') := by
  obtain ⟨t, i1, s1, h1, h2, h3, hE⟩ := sureR_ok hc 14 (by omega) (by omega) i s h0 (by omega)
  obtain ⟨v, i2, s2, e2, v0, v1, _, g1, g2⟩ := pick_ok hc i1 s1 18 (by omega) (by omega) (by omega)
  unfold spec_l1Cur_river.f
  by_cases c0 : v = 0
  · obtain ⟨w, i3, s3, e3, g3, g4, hw⟩ := drawOf hc i2 s2 [(⟨#[]⟩ : ByteArray), (⟨#[120]⟩ : ByteArray), (⟨#[111, 32, 111]⟩ : ByteArray), (⟨#[46, 46, 46, 46, 46, 46, 46, 46, 46, 46, 46, 46, 46, 46, 46, 46, 46, 46, 46, 46, 46, 46, 46, 46, 46, 46, 46, 46, 46, 46, 46, 46, 46, 46, 46, 46, 46, 46, 46, 46]⟩ : ByteArray), (⟨#[111, 111, 111, 111, 111, 111, 111, 111, 111, 111, 111, 111, 111, 111, 111, 111, 111, 111, 111, 111, 111, 111, 111, 111, 111, 111, 111, 111, 111, 111, 111, 111, 111, 111, 111, 111, 111, 111, 111, 111, 111]⟩ : ByteArray)] (by omega) (by omega) (by simp) (by simp)
    have hs : w.size ≤ 100 := by
      simp only [List.mem_cons, List.not_mem_nil, or_false] at hw
      rcases hw with rfl | rfl | rfl | rfl | rfl <;> decide
    exact ⟨w, i3, s3, hs, by omega, by omega, Ev.bind hE (evBind0 e2 (evPos c0 (evBind0 e3 (evSome rfl))))⟩
  · by_cases c1 : v = 1
    · obtain ⟨w, i3, s3, g3, g4, g5, hE2⟩ := spoilt_ok hc t (⟨#[111, 46, 120]⟩ : ByteArray) (by decide) (by decide) (by omega) i2 s2 (by omega) (by omega)
      exact ⟨w, i3, s3, by omega, by omega, by omega, Ev.bind hE (evBind0 e2 (evNeg c0 (evPos c1 (Ev.bind hE2 (evSome rfl)))))⟩
    · by_cases c2 : v = 2
      · obtain ⟨w, i3, s3, g3, g4, g5, hE2⟩ := riv_l0 hc 40 t i2 s2 (by omega) (by omega) (by omega) (by omega) (by omega)
        exact ⟨w, i3, s3, g3, by omega, by omega, Ev.bind hE (evBind0 e2 (evNeg c0 (evNeg c1 (evPos c2 hE2))))⟩
      · exact ⟨t, i2, s2, by omega, by omega, by omega, Ev.bind hE (evBind0 e2 (evNeg c0 (evNeg c1 (evNeg c2 (evSome rfl)))))⟩
theorem leap_ok {c : List Int} (hc : bytesOk c) (i s : Int) (h0 : 0 ≤ i) (hi : i ≤ 1000000) : ∃ v i' s', i ≤ i' ∧ i' ≤ i + 2 ∧ spec_l1Cur_leap.f c i s = some (v, i', s') := by
  obtain ⟨v, i1, s1, e1, g1, g2, _⟩ := drawI hc i s [1, 2, 2, 3, 3, 4, 5, 9, 50, 51, 0, (-1)] h0 (by omega) (by simp) (by simp)
  unfold spec_l1Cur_leap.f
  rw [e1]
  exact ⟨_, _, _, g1, g2, rfl⟩
theorem leaper_ok {c : List Int} (hc : bytesOk c) (i s : Int) (h0 : 0 ≤ i) (hi : i ≤ 100000) : ∃ t a i' s', t.size ≤ 100 ∧ i ≤ i' ∧ i' ≤ i + 300 ∧ Ev (fun k => spec_l1Cur_leaper.f k c i s) (t, a, i', s') := by
  obtain ⟨t, i1, s1, h1, h2, h3, hE⟩ := river_ok hc i s h0 (by omega)
  have no : ∀ i2 s2, i1 ≤ i2 → i2 ≤ i1 + 2 → ∃ a i' s', i2 ≤ i' ∧ i' ≤ i2 + 2 ∧ Ev (fun k => spec_l1Cur_leaper.j0 k t false c i2 s2) (t, a, i', s') := by
    intro i2 s2 k1 k2
    obtain ⟨v, i3, s3, g1, g2, e3⟩ := leap_ok hc i2 s2 (by omega) (by omega)
    exact ⟨v, i3, s3, g1, g2, Ev.step (fun k => by rw [spec_l1Cur_leaper.j0]) (evNeg (by simp) (evBind0 e3 (evSome rfl)))⟩
  unfold spec_l1Cur_leaper.f
  cases hg : goodL t with
  | true =>
    have hgE : Ev (fun k => spec_rvGood.f k t) true := hg ▸ rvGood_ev t
    obtain ⟨b, i2, s2, e2, g1, g2⟩ := drawB hc i1 s1 3 (by omega) (by omega) (by omega)
    cases b with
    | false =>
      obtain ⟨a, i3, s3, g3, g4, hE3⟩ := no i2 s2 g1 g2
      exact ⟨t, a, i3, s3, h1, by omega, by omega, Ev.bind hE (Ev.bind hgE (evPos rfl (evBind0 e2 hE3)))⟩
    | true =>
      obtain ⟨v, i3, s3, e3, v0, _, _, g3, g4⟩ := pick_ok hc i2 s2 2 (by omega) (by omega) (by omega)
      refine ⟨t, wrap64 ((gapOf 0 0 0 ((List.range' 1 (t.size + 1)).filter (pl t))).1 + v), i3, s3, h1, by omega, by omega, Ev.bind hE (Ev.bind hgE (evPos rfl (evBind0 e2 (Ev.step (fun k => by rw [spec_l1Cur_leaper.j0]) (evPos rfl (Ev.bind (rvGap_ev t (by omega)) ?_))))))⟩
      exact evBind0 e3 (evSome rfl)
  | false =>
    have hgE : Ev (fun k => spec_rvGood.f k t) false := hg ▸ rvGood_ev t
    obtain ⟨a, i3, s3, g3, g4, hE3⟩ := no i1 s1 (by omega) (by omega)
    exact ⟨t, a, i3, s3, h1, by omega, by omega, Ev.bind hE (Ev.bind hgE (evNeg (by simp) hE3))⟩
theorem drawAdd_ok {c : List Int} (hc : bytesOk c) : ∃ t a, t.size ≤ 100 ∧ Ev (fun k => spec_DrawStonesToAdd.f k c) (t, a) := by
  obtain ⟨t, a, i', s', h1, _, _, hE⟩ := leaper_ok hc 0 0 (by omega) (by omega)
  refine ⟨t, a, h1, ?_⟩
  unfold spec_DrawStonesToAdd.f spec_DrawCanCross.f
  exact Ev.bind (Ev.bind hE (evSome rfl)) (evSome rfl)
theorem drawGap_ok {c : List Int} (hc : bytesOk c) : ∃ t, t.size ≤ 100 ∧ Ev (fun k => spec_DrawLongestGap.f k c) t := by
  obtain ⟨t, i', s', h1, _, _, hE⟩ := river_ok hc 0 0 (by omega) (by omega)
  refine ⟨t, h1, ?_⟩
  unfold spec_DrawLongestGap.f spec_DrawIsRiver.f
  exact Ev.bind (Ev.bind hE (evSome rfl)) (evSome rfl)
theorem drawPut_ok {c : List Int} (hc : bytesOk c) : ∃ t p, t.size ≤ 100 ∧ Ev (fun k => spec_DrawPutStone.f k c) (t, p) := by
  obtain ⟨t, i1, s1, h1, h2, h3, hE⟩ := river_ok hc 0 0 (by omega) (by omega)
  obtain ⟨v, i2, s2, e2, _, _, _, g1, g2⟩ := pick_ok hc i1 s1 (wrap64 ((t.size : Int) + 3)) (by omega) (by omega) (by rw [w64 (by omega) (by omega)]; omega)
  obtain ⟨u, i3, s3, e3, _⟩ := pick_ok hc i2 s2 9 (by omega) (by omega) (by omega)
  refine ⟨t, wrap64 (v - (wrap64 (Int.tdiv u 8))), h1, ?_⟩
  unfold spec_DrawPutStone.f
  refine Ev.bind hE (evBind0 e2 (evBind0 e3 (evSome rfl)))
theorem drawJoin_ok {c : List Int} (hc : bytesOk c) : ∃ t s, t.size ≤ 100 ∧ s.size ≤ 100 ∧ Ev (fun k => spec_DrawJoinRivers.f k c) (t, s) := by
  obtain ⟨t, i1, s1, h1, h2, h3, hE⟩ := river_ok hc 0 0 (by omega) (by omega)
  obtain ⟨s, i2, s2, g1, g2, g3, hE2⟩ := river_ok hc i1 s1 (by omega) (by omega)
  refine ⟨t, s, h1, g1, ?_⟩
  unfold spec_DrawJoinRivers.f
  exact Ev.bind hE (Ev.bind hE2 (evSome rfl))
theorem sign_data {r : ByteArray} (h : goodL r = true) (p : Nat) (h1 : 1 ≤ p) (h2 : p ≤ r.size) : r.data.toList.getD (p - 1) 0 = 111 ∧ pl r p = true ∨ r.data.toList.getD (p - 1) 0 = 46 ∧ pl r p = false := by
  have hs : rvSign (r.data.toList.getD (p - 1) 0) = true := by
    unfold goodL at h
    rw [Bool.and_eq_true, List.all_eq_true] at h
    have hl : r.data.toList.length = r.size := data_length r
    refine h.2 _ ?_
    rw [← getElem_getD _ (p - 1) 0 (by omega)]
    exact List.getElem_mem _
  rw [pl_list r p h1 h2]
  unfold rvSign at hs
  rw [Bool.or_eq_true, beq_iff_eq, beq_iff_eq] at hs
  rcases hs with e | e
  · exact .inl (by rw [e]; exact ⟨rfl, rfl⟩)
  · exact .inr (by rw [e]; exact ⟨rfl, rfl⟩)
theorem good_mir {r : ByteArray} (h : goodL r = true) : goodL (mirS r) = true := by
  unfold goodL at h ⊢
  rw [mirS_size, mirS_data]
  rw [Bool.and_eq_true] at h ⊢
  refine ⟨h.1, ?_⟩
  rw [List.all_eq_true] at h ⊢
  exact fun x hx => h.2 x (List.mem_reverse.1 hx)
theorem ps_case (s : ByteArray) (p : Int) : (∃ n : Nat, p = (n : Int) ∧ 1 ≤ n ∧ n ≤ s.size ∧ goodL s = true ∧ pl s n = false ∧ psF s p = (putS s n 111, true)) ∨ psF s p = (⟨#[]⟩, false) := by
  by_cases h : inR s p ∧ pl s p.toNat = false
  · obtain ⟨n, rfl⟩ : ∃ n : Nat, p = (n : Int) := ⟨p.toNat, by have := h.1.2.1; omega⟩
    have hb : pl s n = false := h.2
    exact .inl ⟨n, rfl, by have := h.1.2.1; omega, by have := h.1.2.2; omega, h.1.1, hb, ps_yes h.1 hb⟩
  · exact .inr (ps_no h)
theorem tk_case (s : ByteArray) (p : Int) : (∃ n : Nat, p = (n : Int) ∧ 1 ≤ n ∧ n ≤ s.size ∧ goodL s = true ∧ pl s n = true ∧ tkF s p = (putS s n 46, true)) ∨ tkF s p = (⟨#[]⟩, false) := by
  by_cases h : inR s p ∧ pl s p.toNat = true
  · obtain ⟨n, rfl⟩ : ∃ n : Nat, p = (n : Int) := ⟨p.toNat, by have := h.1.2.1; omega⟩
    have hb : pl s n = true := h.2
    exact .inl ⟨n, rfl, by have := h.1.2.1; omega, by have := h.1.2.2; omega, h.1.1, hb, tk_yes h.1 hb⟩
  · exact .inr (tk_no h)
theorem j8_ev (s x y : ByteArray) (p : Int) (hs : s.size ≤ 100) (hx : x.size ≤ 100) (hy : y.size ≤ 100) : Ev (fun k => laws_FnRiversMended.j8 k s p (tkF s p).1 (tkF s p).2 x y (jnF x y).1 (jnF x y).2) true := by
  refine Ev.step (fun k => by rw [laws_FnRiversMended.j8]) ?_
  have tail : Ev (fun _ => if (jnF x y).2 = true then ((impl_IsRiver.f (jnF x y).1).bind fun t => if t = true then (if x.size + y.size ≤ 9223372036854775807 then (if (jnF x y).1.toList = (x ++ y).toList then some true else none) else none) else none) else some true) true := by
    by_cases h : goodL x = true ∧ goodL y = true ∧ x.size + y.size ≤ 40
    · rw [jn_yes h]
      refine evPos rfl (evBind0 (IsRiver_eq (x ++ y) (by rw [ByteArray.size_append]; omega)) ?_)
      rw [good_app x y h.1 h.2.1, decide_eq_true h.2.2]
      exact evPos rfl (evPos (by omega) (evPos rfl (evSome rfl)))
    · rw [jn_no h]
      exact evNeg (by simp) (evSome rfl)
  rcases tk_case s p with ⟨n, rfl, h1, h2, h3, h4, h5⟩ | h5
  · rw [h5]
    have hz := putS_size s n 46
    have hps : psF (putS s n 46) (n : Int) = (s, true) := by
      rw [ps_yes ⟨good_put s n 46 rfl h3, by omega, by omega⟩ (by rw [pl_put s n 46 h1 h2 n (by omega), if_pos rfl]; rfl)]
      congr 1
      refine put_put s n 46 111 ?_ (by omega)
      rcases sign_data h3 n h1 h2 with ⟨e, _⟩ | ⟨_, e⟩
      · exact e
      · rw [h4] at e
        exact Bool.noConfusion e
    refine evPos rfl (evBind0 (Put_impl (putS s n 46) (by omega) (n : Int)) ?_)
    rw [hps]
    exact evPos rfl (evPos rfl tail)
  · rw [h5]
    exact evNeg (by simp) tail
theorem j7_ev (s x y : ByteArray) (p : Int) (hs : s.size ≤ 100) (hx : x.size ≤ 100) (hy : y.size ≤ 100) : Ev (fun k => laws_FnRiversMended.j7 k s p (psF s p).1 (psF s p).2 (tkF s p).1 (tkF s p).2 x y (jnF x y).1 (jnF x y).2) true := by
  refine Ev.step (fun k => by rw [laws_FnRiversMended.j7]) ?_
  have tail := j8_ev s x y p hs hx hy
  rcases ps_case s p with ⟨n, rfl, h1, h2, h3, h4, h5⟩ | h5
  · rw [h5]
    have hz := putS_size s n 111
    have htk : tkF (putS s n 111) (n : Int) = (s, true) := by
      rw [tk_yes ⟨good_put s n 111 rfl h3, by omega, by omega⟩ (by rw [pl_put s n 111 h1 h2 n (by omega), if_pos rfl]; rfl)]
      congr 1
      refine put_put s n 111 46 ?_ (by omega)
      rcases sign_data h3 n h1 h2 with ⟨_, e⟩ | ⟨e, _⟩
      · rw [h4] at e
        exact Bool.noConfusion e
      · exact e
    refine evPos rfl (evBind0 (Take_impl (putS s n 111) (by omega) (n : Int)) ?_)
    rw [htk]
    exact evPos rfl (evPos rfl tail)
  · rw [h5]
    exact evNeg (by simp) tail
theorem j6_ev (r s x y : ByteArray) (p : Int) (hr : r.size ≤ 100) (hs : s.size ≤ 100) (hx : x.size ≤ 100) (hy : y.size ≤ 100) : Ev (fun k => laws_FnRiversMended.j6 k r (lgF r).1 (lgF r).2.1 (lgF r).2.2 (llF r).1 (mrF r).1 s p (psF s p).1 (psF s p).2 (tkF s p).1 (tkF s p).2 x y (jnF x y).1 (jnF x y).2 false) true := by
  refine Ev.step (fun k => by rw [laws_FnRiversMended.j6]) (evNeg (by simp) ?_)
  have tail := j7_ev s x y p hs hx hy
  by_cases hg : goodL r = true
  · have h8 := goodL_len r hg
    have e1 : lgF r = ((gapN r).1, (gapN r).2, true) := if_pos hg
    have e2 : llF r = ((gapN r).1, true) := if_pos hg
    have e3 : mrF r = (mirS r, true) := if_pos hg
    have e4 : mrF (mirS r) = (mirS (mirS r), true) := if_pos (good_mir hg)
    have e5 : llF (mirS r) = ((gapN (mirS r)).1, true) := if_pos (good_mir hg)
    obtain ⟨g1, g2, g3⟩ := gap_facts r
    have hz := mirS_size r
    rw [e1, e2, e3]
    dsimp only
    refine evPos rfl (evBind0 (Mirror_impl (mirS r) (by omega)) (Ev.bind (LeastL_impl (mirS r) (by omega)) ?_))
    rw [e4, e5, i1r r.size (by omega), w64 (x := (gapN r).2 + (gapN r).1) (by omega) (by omega)]
    refine evPos rfl (evNeg (by omega) (evNeg (by omega) (evNeg (by omega) (evPos rfl (evPos ?_ (evPos rfl (evPos (gap_mir (by omega)) tail)))))))
    rw [mir_mir]
  · have e1 : lgF r = (0, 0, false) := if_neg hg
    rw [e1]
    exact evNeg (by simp) tail
theorem j5_ev {l1 : List Int} (ok : bytesOk l1) : Ev (fun k => laws_FnRiversMended.j5 k l1) true := by
  obtain ⟨r, hr, hD⟩ := drawGap_ok ok
  obtain ⟨s, p, hs, hD2⟩ := drawPut_ok ok
  obtain ⟨x, y, hx, hy, hD3⟩ := drawJoin_ok ok
  have fin := j6_ev r s x y p hr hs hx hy
  refine Ev.step (fun k => by rw [laws_FnRiversMended.j5]) ?_
  refine Ev.bind hD (Ev.bind (Long_impl r (by omega)) (Ev.bind (Long_spec r) (Ev.bind (LeastL_impl r (by omega)) (Ev.bind (LeastL_spec r) (evBind0 (Mirror_impl r (by omega)) (Ev.bind (Mirror_spec r) (Ev.bind hD2 ?_)))))))
  dsimp only
  refine evBind0 (Put_impl s (by omega) p) (Ev.bind (Put_spec s p) (evBind0 (Take_impl s (by omega) p) (Ev.bind (Take_spec s p) (Ev.bind hD3 ?_))))
  dsimp only
  refine evBind0 (Join_impl x y (by omega) (by omega)) (Ev.bind (Join_spec x y) ?_)
  have c1 : ((llF r).2 != (lgF r).2.2) = false := by unfold llF lgF; split <;> rfl
  have c2 : ((mrF r).2 != (lgF r).2.2) = false := by unfold mrF lgF; split <;> rfl
  rw [c1, c2]
  refine evNeg (by simp) (evPos rfl (evPos rfl (evNeg (by simp) (evPos rfl (evNeg (by simp) (evPos rfl (evNeg (by simp) (evPos rfl (evNeg (by simp) (evPos rfl (evNeg (by simp) (evPos rfl (evNeg (by simp) (evNeg (by simp) ?_))))))))))))))
  rcases ps_case s p with ⟨n, rfl, h1, h2, h3, h4, h5⟩ | h5
  · have h6 : (tkF s (n : Int)).2 = false := by
      rcases tk_case s (n : Int) with ⟨m, hm, _, _, _, h7, _⟩ | h7
      · obtain rfl : n = m := by omega
        rw [h4] at h7
        exact Bool.noConfusion h7
      · rw [h7]
    rw [h6] at fin ⊢
    rw [h5] at fin ⊢
    exact evPos rfl fin
  · rw [h5] at fin ⊢
    exact evNeg (by simp) fin
theorem rises_l0 (L : List Nat) (hp : L.Pairwise (· < ·)) (hl : L.length ≤ 100000) : ∀ (e i : Nat), 1 ≤ i → (i + e = L.length ∨ L.length < i ∧ e = 0) → Ev (fun k => laws_dRises.l0 k (ints L) (i : Int)) true := by
  intro e
  induction e with
  | zero =>
    intro i h1 hi
    refine Ev.step (fun k => by rw [laws_dRises.l0]) ?_
    rw [ints_len]
    exact evNeg (by omega) (evSome rfl)
  | succ e ih =>
    intro i h1 hi
    have hi2 : i + (e + 1) = L.length := by omega
    have hlt : L.getD (i - 1) 0 < L.getD i 0 := by
      rw [← getElem_getD L (i - 1) 0 (by omega), ← getElem_getD L i 0 (by omega)]
      exact List.pairwise_iff_getElem.1 hp (i - 1) i (by omega) (by omega) (by omega)
    refine Ev.step (fun k => by rw [laws_dRises.l0]) ?_
    rw [ints_len, show wrap64 ((i : Int) - 1) = ((i - 1 : Nat) : Int) from (w64 (by omega) (by omega)).trans (by omega), rdE, rdE, ints_at L i (by omega), ints_at L (i - 1) (by omega), i1r i (by omega)]
    exact evPos (by omega) (evPos (by omega) (evPos (by omega) (evPos (by omega) (evNeg (by omega) (ih (i + 1) (by omega) (.inl (by omega)))))))
theorem rises_ev (L : List Nat) (hp : L.Pairwise (· < ·)) (hl : L.length ≤ 100000) : Ev (fun k => laws_dRises.f k (ints L)) true := by
  unfold laws_dRises.f
  by_cases h : L.length = 0
  · exact rises_l0 L hp hl 0 1 (Nat.le_refl _) (.inr ⟨by omega, rfl⟩)
  · exact rises_l0 L hp hl (L.length - 1) 1 (Nat.le_refl _) (.inl (by omega))
theorem sts_sorted (r : ByteArray) (h : Nat → Bool) : (stsL r h).Pairwise (· < ·) := (List.pairwise_lt_range' (s := 1) (n := r.size)).filter _
theorem sts_mem {r : ByteArray} {h : Nat → Bool} {p : Nat} : p ∈ stsL r h ↔ 1 ≤ p ∧ p ≤ r.size ∧ pl r p = true ∧ h p = true := by
  unfold stsL
  rw [List.mem_filter, List.mem_range'_1, Bool.and_eq_true]
  exact ⟨fun ⟨⟨h1, h2⟩, h3, h4⟩ => ⟨h1, by omega, h3, h4⟩, fun ⟨h1, h2, h3, h4⟩ => ⟨⟨h1, by omega⟩, h3, h4⟩⟩
theorem sts_len (r : ByteArray) (h : Nat → Bool) : (stsL r h).length ≤ r.size := by
  unfold stsL
  have := List.length_filter_le (fun p => pl r p && h p) (List.range' 1 r.size)
  rw [List.length_range'] at this
  exact this
theorem mem_intsE (L : List Nat) (p : Nat) : ((p : Nat) : Int) ∈ ints L ↔ p ∈ L := by
  unfold ints
  rw [List.mem_map]
  exact ⟨fun ⟨x, hx, he⟩ => by obtain rfl : x = p := by omega
                               exact hx, fun h => ⟨p, h, rfl⟩⟩
theorem rdI_ (l : List Int) (i : Nat) : rd l (i : Int) = l.getD i 0 := by unfold rd; rw [Int.toNat_natCast]
theorem has_l0 (x : Int) (l : List Int) (hl : l.length ≤ 100000) : ∀ (e i : Nat), i + e = l.length → Ev (fun k => laws_dHas.l0 k x l (l.length : Int) (i : Int)) (decide (x ∈ l.drop i)) := by
  intro e
  induction e with
  | zero =>
    intro i hi
    refine Ev.step (fun k => by rw [laws_dHas.l0]) (evNeg (by omega) (evSome ?_))
    rw [List.drop_of_length_le (by omega)]
    simp
  | succ e ih =>
    intro i hi
    refine Ev.step (fun k => by rw [laws_dHas.l0]) ?_
    rw [rdI_, i1r i (by omega), getD_drop_cons l i 0 (by omega)]
    refine evPos (by omega) (evPos (by omega) (evPos (by omega) ?_))
    by_cases h : l.getD i 0 = x
    · exact evPos h (evSome (by rw [h]; simp))
    · refine evNeg h (evEq (ih (i + 1) (by omega)) ?_)
      exact decide_eq_decide.2 ⟨fun hh => List.mem_cons_of_mem _ hh, fun hh => (List.mem_cons.1 hh).resolve_left (fun e => h e.symm)⟩
theorem dHas_ev (x : Int) (l : List Int) (hl : l.length ≤ 100000) : Ev (fun k => laws_dHas.f k l x) (decide (x ∈ l)) := by
  unfold laws_dHas.f
  have := has_l0 x l hl l.length 0 (Nat.zero_add _)
  rw [List.drop_zero] at this
  exact this
section
variable {l1 : List Int} {r : ByteArray} {a : Int}
theorem idl_no (hq : askB r a = true) (p : Nat) (h : idlB r a p = true) : ∀ j k, fw r a j p → wayN r a k p → False := by
  obtain ⟨_, _, hr, h3, h4⟩ := askB_facts hq
  obtain ⟨n, rfl⟩ : ∃ n : Nat, a = (n : Int) := ⟨a.toNat, by omega⟩
  refine idle_no (by omega) n p (fun hh => ?_)
  unfold idlB at h
  rw [Int.toNat_natCast, decide_eq_true hh.1, decide_eq_false (by have := hh.2; omega)] at h
  exact Bool.noConfusion h
theorem idl_can (hq : askB r a = true) (p : Nat) (h1 : 1 ≤ p) (h2 : p ≤ r.size) (h : idlB r a p = true) : canB (putS r p 46) a = canB r a := by
  obtain ⟨_, _, hr, h3, h4⟩ := askB_facts hq
  exact decide_eq_decide.2 (idle_same (by omega) p h1 h2 (idl_no hq p h))
theorem tk_at (hq : askB r a = true) (p : Nat) (h1 : 1 ≤ p) (h2 : p ≤ r.size) (h : pl r p = true) : tkF r (p : Int) = (putS r p 46, true) := tk_yes ⟨(askB_facts hq).1, by omega, by omega⟩ h
theorem can_at (hq : askB r a = true) (p : Nat) : canF (putS r p 46) a = (canB (putS r p 46) a, true) := if_pos (ask_put hq p 46 rfl)
theorem l3_ev (ok : bytesOk l1) (hq : askB r a = true) (hc : canB r a = true) : ∀ (e i : Nat), i + e = (stsL r (idlB r a)).length → Ev (fun k => laws_FnRiversMended.l3 k l1 (0 :: ints (wayL r a (Lf r a 0).toNat 0)) (ints (stsL r (idlB r a))) ((stsL r (idlB r a)).length : Int) (i : Int)) true := by
  obtain ⟨_, h1, hr, h3, h4⟩ := askB_facts hq
  have h0 : 0 ≤ Lf r a 0 := of_decide_eq_true hc
  have hb := Lf_bound (a := a) (show r.size ≤ 1000 by omega) 0 (by omega)
  have hsl := sts_len r (idlB r a)
  intro e
  induction e with
  | zero =>
    intro i hi
    exact Ev.step (fun k => by rw [laws_FnRiversMended.l3]) (evNeg (by omega) (j5_ev ok))
  | succ e ih =>
    intro i hi
    refine Ev.step (fun k => by rw [laws_FnRiversMended.l3]) ?_
    rw [rdE, ints_at _ i (by omega), ints_len, i1r i (by omega)]
    have hm : (stsL r (idlB r a)).getD i 0 ∈ stsL r (idlB r a) := by rw [← getElem_getD _ i 0 (by omega)]; exact List.getElem_mem _
    revert hm
    generalize (stsL r (idlB r a)).getD i 0 = p
    intro hm
    obtain ⟨p1, p2, p3, p4⟩ := sts_mem.1 hm
    have hno : decide ((p : Int) ∈ (0 : Int) :: ints (wayL r a (Lf r a 0).toNat 0)) = false := by
      refine decide_eq_false (fun hh => ?_)
      rcases List.mem_cons.1 hh with h5 | h5
      · omega
      · obtain ⟨j, k, g1, g2⟩ := way_mem (show r.size ≤ 1000 by omega) p _ 0 0 (by omega) (by omega) (pl_zero r) rfl ((mem_intsE _ p).1 h5)
        exact idl_no hq p p4 j k g1 g2
    refine evPos (by omega) (evPos (by omega) (evPos (by omega) (Ev.bind (dHas_ev _ _ (by rw [List.length_cons, ints_len, wayL_len]; omega)) ?_)))
    rw [hno]
    exact evNeg (by simp) (ih (i + 1) (by omega))
theorem l2_ev (ok : bytesOk l1) (hq : askB r a = true) (hc : canB r a = true) : ∀ (e i : Nat), i + e = (stsL r (nedB r a)).length → Ev (fun k => laws_FnRiversMended.l2 k l1 r a (ints (stsL r (idlB r a))) (0 :: ints (wayL r a (Lf r a 0).toNat 0)) (ints (stsL r (nedB r a))) ((stsL r (nedB r a)).length : Int) (i : Int)) true := by
  obtain ⟨_, h1, hr, h3, h4⟩ := askB_facts hq
  have h0 : 0 ≤ Lf r a 0 := of_decide_eq_true hc
  have hb := Lf_bound (a := a) (show r.size ≤ 1000 by omega) 0 (by omega)
  have hsl := sts_len r (nedB r a)
  intro e
  induction e with
  | zero =>
    intro i hi
    refine Ev.step (fun k => by rw [laws_FnRiversMended.l2]) (evNeg (by omega) ?_)
    rw [ints_len]
    exact l3_ev ok hq hc (stsL r (idlB r a)).length 0 (Nat.zero_add _)
  | succ e ih =>
    intro i hi
    refine Ev.step (fun k => by rw [laws_FnRiversMended.l2]) ?_
    rw [rdE, ints_at _ i (by omega), ints_len, i1r i (by omega)]
    have hm : (stsL r (nedB r a)).getD i 0 ∈ stsL r (nedB r a) := by rw [← getElem_getD _ i 0 (by omega)]; exact List.getElem_mem _
    revert hm
    generalize (stsL r (nedB r a)).getD i 0 = p
    intro hm
    obtain ⟨p1, p2, p3, p4⟩ := sts_mem.1 hm
    have hn : canB (putS r p 46) a = false := by
      unfold nedB at p4
      cases h : canB (putS r p 46) a with
      | false => rfl
      | true =>
        rw [h] at p4
        exact Bool.noConfusion p4
    have hz := putS_size r p 46
    have hin : decide ((p : Int) ∈ (0 : Int) :: ints (wayL r a (Lf r a 0).toNat 0)) = true := decide_eq_true (List.mem_cons_of_mem _ ((mem_intsE _ p).2 (needed_in (show r.size ≤ 1000 by omega) p p1 p2 h0 (of_decide_eq_false hn))))
    refine evPos (by omega) (evPos (by omega) (evPos (by omega) (evBind0 (Take_impl r (by omega) (p : Int)) ?_)))
    rw [tk_at hq p p1 p2 p3]
    refine Ev.bind (CanCross_impl (putS r p 46) a (by omega)) (Ev.bind (dHas_ev _ _ (by rw [List.length_cons, ints_len, wayL_len]; omega)) ?_)
    rw [hin, can_at hq p, hn]
    exact evPos rfl (evPos rfl (evPos rfl (evNeg (by simp) (ih (i + 1) (by omega)))))
theorem l1_ev (ok : bytesOk l1) (hq : askB r a = true) : ∀ (e i : Nat), i + e = (stsL r (idlB r a)).length → Ev (fun k => laws_FnRiversMended.l1 k l1 r a (nedF r a).1 (nedF r a).2 (ints (stsL r (idlB r a))) (canB r a) (ints (stsL r (idlB r a))) ((stsL r (idlB r a)).length : Int) (i : Int)) true := by
  obtain ⟨_, h1, hr, h3, h4⟩ := askB_facts hq
  have hsl := sts_len r (idlB r a)
  have hnl := sts_len r (nedB r a)
  intro e
  induction e with
  | zero =>
    intro i hi
    refine Ev.step (fun k => by rw [laws_FnRiversMended.l1]) (evNeg (by omega) ?_)
    cases hc : canB r a with
    | false =>
      rw [nd_no (fun hh => by rw [hc] at hh; exact Bool.noConfusion hh.2)]
      exact evNeg (by simp) (j5_ev ok)
    | true =>
      rw [nd_yes hq hc]
      have e1 : wayF r a = (0 :: ints (wayL r a (Lf r a 0).toNat 0), true) := if_pos ⟨hq, hc⟩
      refine evPos rfl (Ev.bind (First_impl r a (by omega)) ?_)
      rw [e1, ints_len]
      exact evPos rfl (l2_ev ok hq hc (stsL r (nedB r a)).length 0 (Nat.zero_add _))
  | succ e ih =>
    intro i hi
    refine Ev.step (fun k => by rw [laws_FnRiversMended.l1]) ?_
    rw [rdE, ints_at _ i (by omega), ints_len, i1r i (by omega)]
    have hm : (stsL r (idlB r a)).getD i 0 ∈ stsL r (idlB r a) := by rw [← getElem_getD _ i 0 (by omega)]; exact List.getElem_mem _
    revert hm
    generalize (stsL r (idlB r a)).getD i 0 = p
    intro hm
    obtain ⟨p1, p2, p3, p4⟩ := sts_mem.1 hm
    have hcan := idl_can hq p p1 p2 p4
    have hz := putS_size r p 46
    have hno : decide ((p : Int) ∈ (nedF r a).1) = false := by
      refine decide_eq_false (fun hh => ?_)
      cases hc : canB r a with
      | false =>
        rw [nd_no (fun hh => by rw [hc] at hh; exact Bool.noConfusion hh.2)] at hh
        exact List.not_mem_nil hh
      | true =>
        rw [nd_yes hq hc] at hh
        have h5 := (sts_mem.1 ((mem_intsE _ p).1 hh)).2.2.2
        unfold nedB at h5
        rw [hcan, hc] at h5
        exact Bool.noConfusion h5
    have hlen : (nedF r a).1.length ≤ 100000 := by
      unfold nedF
      split
      · dsimp only
        rw [ints_len]
        omega
      · simp
    refine evPos (by omega) (evPos (by omega) (evPos (by omega) (Ev.bind (dHas_ev _ _ hlen) ?_)))
    rw [hno]
    refine evNeg (by simp) (evBind0 (Take_impl r (by omega) (p : Int)) ?_)
    rw [tk_at hq p p1 p2 p3]
    refine Ev.bind (CanCross_impl (putS r p 46) a (by omega)) ?_
    rw [can_at hq p, hcan]
    exact evPos rfl (evPos rfl (evNeg (by simp) (ih (i + 1) (by omega))))
theorem putAll_snoc (s : ByteArray) : ∀ (A : List Nat) (x : Nat), putAllS s (A ++ [x]) = putS (putAllS s A) x 111 := by
  intro A
  induction A generalizing s with
  | nil => exact fun _ => rfl
  | cons y t ih => exact fun x => ih (putS s y 111) x
def adL (r : ByteArray) (a : Int) : List Nat := addL a.toNat 0 ((List.range' 1 (r.size + 1)).filter (pl r))
theorem ad_mem (hq : askB r a = true) : ∀ x ∈ adL r a, 1 ≤ x ∧ x ≤ r.size ∧ pl r x = false := by
  obtain ⟨_, h1, hr, h3, h4⟩ := askB_facts hq
  intro x hx
  obtain ⟨g1, g2, y, g3, g4⟩ := add_mem (show 1 ≤ a.toNat by omega) _ 0 (st_sorted r) x hx
  have hy := List.mem_range'_1.1 (List.mem_filter.1 g3).1
  refine ⟨by omega, by omega, ?_⟩
  cases h : pl r x with
  | false => rfl
  | true => exact absurd (List.mem_filter.2 ⟨List.mem_range'_1.2 ⟨by omega, by omega⟩, h⟩) g2
theorem ad_sorted (hq : askB r a = true) : (adL r a).Pairwise (· < ·) := by
  obtain ⟨_, h1, hr, h3, h4⟩ := askB_facts hq
  exact add_sorted (by omega) _ 0 (st_sorted r)
theorem sorted_len : ∀ (L : List Nat) (lo hi : Nat), L.Pairwise (· < ·) → (∀ x ∈ L, lo ≤ x ∧ x < hi) → L.length ≤ hi - lo
 | [], _, _, _, _ => Nat.zero_le _
 | x :: t, lo, hi, hp, h => by
  have hp2 := List.pairwise_cons.1 hp
  have hx := h x List.mem_cons_self
  have := sorted_len t (x + 1) hi hp2.2 (fun y hy => ⟨by have := hp2.1 y hy; omega, (h y (List.mem_cons_of_mem _ hy)).2⟩)
  rw [List.length_cons]
  omega
theorem ad_len (hq : askB r a = true) : (adL r a).length ≤ r.size := by
  have := sorted_len (adL r a) 1 (r.size + 1) (ad_sorted hq) (fun x hx => by have := ad_mem hq x hx; omega)
  omega
theorem l0_ev (ok : bytesOk l1) (hq : askB r a = true) : ∀ (e i : Nat), i + e = (adL r a).length → Ev (fun k => laws_FnRiversMended.l0 k l1 r a (nedF r a).1 (nedF r a).2 (ints (stsL r (idlB r a))) (canB r a) (putAllS r ((adL r a).take i)) (ints (adL r a)) ((adL r a).length : Int) (i : Int)) true := by
  obtain ⟨hg, h1, hr, h3, h4⟩ := askB_facts hq
  have hal := ad_len hq
  have hsl := sts_len r (idlB r a)
  intro e
  induction e with
  | zero =>
    intro i hi
    refine Ev.step (fun k => by rw [laws_FnRiversMended.l0]) (evNeg (by omega) ?_)
    rw [List.take_of_length_le (by omega)]
    have hz := putAll_size r (adL r a)
    have hgd := putAll_good r hg (adL r a)
    have hask : askB (putAllS r (adL r a)) a = true := by
      unfold askB at hq ⊢
      rw [Bool.and_eq_true] at hq ⊢
      exact ⟨hgd, hq.2⟩
    have hcan : canB (putAllS r (adL r a)) a = true := by
      have := putAll_can (r := r) (by omega) (a := a.toNat) (by omega)
      rw [show ((a.toNat : Nat) : Int) = a by omega] at this
      exact decide_eq_true this
    have e1 : canF (putAllS r (adL r a)) a = (true, true) := (if_pos hask).trans (by rw [hcan])
    refine Ev.bind (CanCross_impl _ a (by omega)) ?_
    rw [e1, ints_len]
    exact evPos rfl (evPos rfl (l1_ev ok hq (stsL r (idlB r a)).length 0 (Nat.zero_add _)))
  | succ e ih =>
    intro i hi
    have nxt := ih (i + 1) (by omega)
    have hx : (adL r a).getD i 0 ∈ adL r a := by rw [← getElem_getD _ i 0 (by omega)]; exact List.getElem_mem _
    have hmx := ad_mem hq _ hx
    have hz := putAll_size r ((adL r a).take i)
    have hgd := putAll_good r hg ((adL r a).take i)
    have hnot : (adL r a).getD i 0 ∉ (adL r a).take i := by
      intro hm
      obtain ⟨j, hj, he⟩ := List.getElem_of_mem hm
      rw [List.length_take] at hj
      rw [List.getElem_take] at he
      have := List.pairwise_iff_getElem.1 (ad_sorted hq) j i (by omega) (by omega) (by omega)
      rw [he, ← getElem_getD (adL r a) i 0 (by omega)] at this
      omega
    have hpl : pl (putAllS r ((adL r a).take i)) ((adL r a).getD i 0) = false := by
      rw [putAll_pl r _ (by omega) _ (fun y hy => by have := ad_mem hq y (List.mem_of_mem_take hy); omega), hmx.2.2, decide_eq_false hnot]
      rfl
    have hsn : putAllS r ((adL r a).take (i + 1)) = putS (putAllS r ((adL r a).take i)) ((adL r a).getD i 0) 111 := by
      rw [← putAll_snoc, List.take_succ_eq_append_getElem (show i < (adL r a).length by omega), getElem_getD (adL r a) i 0 (by omega)]
    rw [hsn] at nxt
    refine Ev.step (fun k => by rw [laws_FnRiversMended.l0]) ?_
    rw [rdE, ints_at _ i (by omega), ints_len, i1r i (by omega)]
    refine evPos (by omega) (evPos (by omega) (evPos (by omega) (evBind0 (Put_impl _ (by omega) _) ?_)))
    rw [ps_yes ⟨hgd, by omega, by omega⟩ hpl]
    exact evPos rfl nxt
theorem j0_ev (ok : bytesOk l1) (hq : askB r a = true) : Ev (fun k => laws_FnRiversMended.j0 k l1 r a (adsF r a).1 (adsF r a).2 (fadF r a).1 (nedF r a).1 (nedF r a).2 (idlF r a).1 (canB r a) false) true := by
  obtain ⟨hg, h1, hr, h3, h4⟩ := askB_facts hq
  have e1 : adsF r a = (ints (adL r a), true) := if_pos hq
  have e2 : (fadF r a).1 = ((adL r a).length : Int) := by
    unfold fadF
    rw [e1]
    dsimp only
    rw [ints_len]
  have hal := ad_len hq
  have hsl := sts_len r (idlB r a)
  have hnl := sts_len r (nedB r a)
  rw [e1, e2, id_yes hq]
  refine Ev.step (fun k => by rw [laws_FnRiversMended.j0]) (evNeg (by simp) (evPos rfl ?_))
  dsimp only
  rw [ints_len]
  have hc : (canB r a != (((adL r a).length : Int) == 0)) = false := by
    have hh := add_can (r := r) (by omega) a.toNat
    rw [show ((a.toNat : Nat) : Int) = a by omega] at hh
    have : (((adL r a).length : Int) == 0) = canB r a := by
      rw [Bool.eq_iff_iff, beq_iff_eq]
      unfold canB
      rw [decide_eq_true_eq, ← hh]
      exact ⟨fun h => (List.length_eq_zero_iff.1 (show (adL r a).length = 0 by omega) : adL r a = []), fun h => by rw [show adL r a = [] from h]; rfl⟩
    rw [this]
    simp
  rw [hc]
  refine evPos rfl (evNeg (by simp) (Ev.bind (rises_ev _ (ad_sorted hq) (by omega)) (evPos rfl (Ev.bind (rises_ev _ (sts_sorted r _) (by omega)) (evPos rfl ?_)))))
  have hn : Ev (fun k => laws_dRises.f k (nedF r a).1) true := by
    unfold nedF
    split
    · exact rises_ev _ (sts_sorted r _) (by omega)
    · exact rises_ev [] List.Pairwise.nil (by simp)
  exact Ev.bind hn (evPos rfl (l0_ev ok hq (adL r a).length 0 (Nat.zero_add _)))
end
end Go.Proofs.YtfoflpomfmbjoaaDoor.X
end
section
namespace Go.Proofs.YtfoflpomfmbjoaaDoor.Pure
open Go.RowKit Go.Proofs.YtfoflpomfmbjoaaDoor.X Go.Proofs.YtfoflpomfmbjoaaDoorW.PrintWords Go.Proofs.YtfoflpomfmbjoaaDoorW.PrintLast
theorem big_f (l0 l1 : List Int) (h0 : l0.length ≤ 9000000000000000000) (h1 : l1.length ≤ 9000000000000000000) : ∃ b, laws_big.f l0 l1 = some b ∧ (b = false → l0.length ≤ 1048576 ∧ l1.length ≤ 1048576) := by
  unfold laws_big.f
  by_cases c : (l0.length : Int) > 1048576
  · rw [if_pos c]
    exact ⟨_, rfl, fun h => by cases h⟩
  · rw [if_neg c]
    refine ⟨_, rfl, fun h => ?_⟩
    have h2 := of_decide_eq_false h
    rw [w64 (by omega) (by omega)] at h2
    omega
theorem FnRiversMended : laws_FnRiversMended.PureQ := by
  rintro l0 l1 ⟨hl0, hb0⟩ hm0 ⟨hl1, hb1⟩ hm1
  refine Ev.rounds ?_
  unfold laws_FnRiversMended.f
  obtain ⟨b, hb, hsz⟩ := big_f l0 l1 (by unfold maxLen at hl0; omega) (by unfold maxLen at hl1; omega)
  refine evBind0 hb ?_
  cases b with
  | true => exact evPos rfl (evSome rfl)
  | false =>
    obtain ⟨s0, s1⟩ := hsz rfl
    have ok0 : bytesOk l0 := bytesOk_of hb0 s0
    have ok1 : bytesOk l1 := bytesOk_of hb1 s1
    obtain ⟨r, a, hr, hD⟩ := drawAdd_ok ok0
    have hR : r.size ≤ 1000000 := by omega
    refine evNeg (by simp) (Ev.bind hD ?_)
    dsimp only
    refine Ev.bind (Add_impl r a hR) (Ev.bind (Add_spec r a) (Ev.bind (FewAdd_impl r a hR) (Ev.bind (FewAdd_spec r a) (Ev.bind (Needed_impl r a hR) (Ev.bind (Needed_spec r a) (Ev.bind (Idle_impl r a hR) (Ev.bind (Idle_spec r a) (Ev.bind (CanCross_impl r a hR) ?_))))))))
    by_cases hq : askB r a = true
    · obtain ⟨hg, h1, h2, h3, h4⟩ := askB_facts hq
      have hal := ad_len hq
      have hsl := sts_len r (idlB r a)
      have hnl := sts_len r (nedB r a)
      have e1 : adsF r a = (ints (adL r a), true) := if_pos hq
      have e2 : (fadF r a).2 = true := by unfold fadF; rw [e1]
      have e3 : canF r a = (canB r a, true) := if_pos hq
      have e4 : (nedF r a).2 = canB r a := by
        cases hc : canB r a with
        | true => rw [nd_yes hq hc]
        | false => rw [nd_no (fun hh => by rw [hc] at hh; exact Bool.noConfusion hh.2)]
      have hln : (nedF r a).1.length ≤ 1000 := by
        unfold nedF
        split
        · dsimp only
          rw [ints_len]
          omega
        · simp
      have hj := j0_ev ok1 hq
      rw [e1, id_yes hq] at hj
      rw [e1, e2, e3, id_yes hq]
      refine evNeg (by simp) (Ev.bind (dSame_self _ (by dsimp only; rw [ints_len]; omega)) (evPos rfl (evNeg (by simp) (evPos rfl (evNeg (by simp) (Ev.bind (dSame_self _ (by omega)) (evPos rfl (evNeg (by simp) (Ev.bind (dSame_self _ (by dsimp only; rw [ints_len]; omega)) (evPos rfl (evNeg (by simp) (evNeg (by simp) (evNeg (by simp) (evPos rfl ?_))))))))))))))
      have ef : ((nedF r a).2 != canB r a) = false := by rw [e4]; simp
      dsimp only at hj ⊢
      rw [ef]
      exact hj
    · have e1 : adsF r a = ([], false) := if_neg hq
      have e2 : fadF r a = (0, false) := by unfold fadF; rw [e1]; rfl
      have e3 : canF r a = (false, false) := if_neg hq
      rw [e1, e2, e3, nd_no (fun hh => hq hh.1), id_no hq]
      refine evNeg (by simp) (Ev.bind (dSame_self [] (by simp)) (evPos rfl (evNeg (by simp) (evPos rfl (evNeg (by simp) (Ev.bind (dSame_self [] (by simp)) (evPos rfl (evNeg (by simp) (Ev.bind (dSame_self [] (by simp)) (evPos rfl (evNeg (by simp) (evNeg (by simp) (evNeg (by simp) (evNeg (by simp) ?_))))))))))))))
      exact Ev.step (fun k => by rw [laws_FnRiversMended.j0]) (evNeg (by simp) (evNeg (by simp) (j5_ev ok1)))
end Go.Proofs.YtfoflpomfmbjoaaDoor.Pure
end
section
set_option linter.unusedVariables false
namespace Go.Proofs.YtfoflpomfmbjoaaDoor.Open
open Go.ChangeShapes Go.WideShapes Go.Deep Go.RowKit Go.Proofs.YtfoflpomfmbjoaaDoorW.PrintWords
structure Opens {α : Type} (P : Program) (t : TypeId) (d : Kd α) (wf : α → Prop) : Prop where
  intro ::
  size : P.cellsOf t = d.sz
  all : ∀ (H : Type) (enc : TypeId × Value → H) (w : World) (base : Nat) (spare : Nat → Bool) (held : Bool) (fuel : Nat) (cs : List Value) (x : DataW H × List MemPlace),
    DataW.trod enc P w base spare held fuel t cs = some x → ∃ a : α, d.K w a cs ∧ wf a
theorem opens_int {P : Program} {t : TypeId} {k : IntKind} (ht : P.underlying t = some (.int k)) (hc : P.cellsOf t = 1) : Opens P t (Kd.int k) (fun n => (Lit.int k n).wf = true) := by
  refine ⟨hc, fun H enc w base spare held fuel cs x h => ?_⟩
  obtain ⟨n, rfl, _, hw⟩ := DataW.trod_int ht h
  exact ⟨n, rfl, hw⟩
theorem choose_list {α : Type} {Q : Nat → α → Prop} : ∀ (n : Nat), (∀ i, i < n → ∃ a, Q i a) → ∃ l : List α, l.length = n ∧ ∀ i a, l[i]? = some a → Q i a
  | 0, _ => ⟨[], rfl, fun i a h => by simp at h⟩
  | n + 1, h => by
    obtain ⟨l, hl, hq⟩ := choose_list n (fun i hi => h i (by omega))
    obtain ⟨a, ha⟩ := h n (by omega)
    refine ⟨l ++ [a], by simp [hl], fun i b hb => ?_⟩
    by_cases hi : i < l.length
    · rw [List.getElem?_append_left hi] at hb
      exact hq i b hb
    · rw [List.getElem?_append_right (by omega)] at hb
      by_cases e : i - l.length = 0
      · rw [e] at hb
        simp at hb
        subst hb
        have : i = n := by omega
        rw [this]
        exact ha
      · rw [List.getElem?_singleton, if_neg e] at hb
        cases hb
theorem cells?_at {w : World} {base : Nat} {a : Addr} {n : Nat} {cs : List Value} (h : w.cells? base a n = some cs) : cs.length = n ∧ ∀ i u, cs[i]? = some u → w.cell? (a.add i) = some u := by
  obtain ⟨_, hl, hat⟩ := World.cells?_some h
  refine ⟨hl, fun i u hi => ?_⟩
  have : i < n := by rw [← hl]; exact (List.getElem?_eq_some_iff.1 hi).1
  rw [hat i this]
  exact hi
theorem opens_slice {α : Type} {P : Program} {t e : TypeId} {d : Kd α} {wf : α → Prop} (ht : P.underlying t = some (.slice e)) (hc : P.cellsOf t = 1) (he : Opens P e d wf) : Opens P t (Kd.slice e d) (fun l => l.length ≤ maxLen ∧ ∀ x ∈ l, wf x) := by
  refine ⟨hc, fun H enc w base spare held fuel cs x h => ?_⟩
  rcases open_slice ht h with ⟨rfl, _⟩ | ⟨a, len, cap, m, n, D, Pl, rfl, _, hl, hm, hmm, _, hi⟩
  · exact ⟨[], ⟨none, 0, rfl, by simp, Kd.C_nil d w⟩, by simp, by simp⟩
  · have hlm : len ≤ m := by rw [hmm]; split <;> omega
    obtain ⟨l, hll, hq⟩ := choose_list (Q := fun i (b : α) => ∃ c, c.length = d.sz ∧ d.K w b c ∧ wf b ∧ ∀ j u, c[j]? = some u → w.cell? (a.add (i * d.sz + j)) = some u) len (fun i hil => by
      obtain ⟨cs', h1, h2⟩ := hi i (by omega)
      obtain ⟨hl1, hat⟩ := cells?_at h1
      obtain ⟨b, hK, hwf⟩ := he.2 _ _ _ _ _ _ _ _ _ h2
      refine ⟨b, cs', by rw [hl1, he.1], hK, hwf, fun j u hj => ?_⟩
      have := hat j u hj
      rw [Go.Deep.add_add, he.1] at this
      exact this)
    refine ⟨l, ⟨some a, cap, by rw [hll], by omega, ⟨rfl, by rw [hll]; unfold maxLen at hm; omega, fun _ => ⟨a, rfl, fun j p hp => ?_⟩⟩⟩, by rw [hll]; omega, fun x hx => ?_⟩
    · obtain ⟨c, h1, h2, _, h4⟩ := hq j p hp
      exact ⟨c, h1, h2, h4⟩
    · obtain ⟨i, hi⟩ := List.getElem?_of_mem hx
      obtain ⟨c, _, _, h3, _⟩ := hq i x hi
      exact h3
structure OpensFs {α : Type} (P : Program) (fs : List Field) (o : Nat) (d : Kd α) (wf : α → Prop) : Prop where
  intro ::
  all : ∀ (H : Type) (enc : TypeId × Value → H) (w : World) (base : Nat) (spare : Nat → Bool) (held : Bool) (n : Nat) (cs : List Value), cs.length = o + d.sz →
    (∀ (i : Nat) (f : Field), fs[i]? = some f → ∃ y, DataW.trod enc P w base spare held n f.type ((cs.drop f.offset).take (P.cellsOf f.type)) = some y) → ∃ a : α, d.K w a (cs.drop o) ∧ wf a
theorem opens_arg {H α : Type} {enc : TypeId × Value → H} {P : Program} {W : World} {base : Nat} {spare : Nat → Bool} {held : Bool} {t : TypeId} {v : Value} {x : DataW H} {ps : List MemPlace} {d : Kd α} {wf : α → Prop} (ho : Opens P t d wf) (h : DataW.Trod enc P W base spare held t v x ps) : ∃ a : α, d.K W a v.cells.toList ∧ wf a := by
  obtain ⟨fuel, hf⟩ := h
  exact ho.2 _ _ _ _ _ _ _ _ _ hf
theorem trod_lt_arg {H : Type} {enc : TypeId × Value → H} {P : Program} {W : World} {base : Nat} {spare : Nat → Bool} {held : Bool} {t : TypeId} {v : Value} {x : DataW H} {ps : List MemPlace} (h : DataW.Trod enc P W base spare held t v x ps) : ∀ y ∈ ps, y.block < W.heap.size := by
  obtain ⟨m, hm⟩ := h
  exact DataW.trod_lt m _ _ _ hm
end Go.Proofs.YtfoflpomfmbjoaaDoor.Open
end
