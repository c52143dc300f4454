import Derived.Test.YtclmmnphmlmnmaaP1
import Derived.Test.YtclmmnphmlmnmaaP4
import Derived.Test.YtclmmnphmlmnmaaP5
import Derived.Test.YtclmmnphmlmnmaaP6
import Derived.Test.YtclmmnphmlmnmaaP8
import Derived.Test.YtclmmnphmlmnmaaP9
import Derived.Test.YtclmmnphmlmnmaaP10
import Derived.Test.YtclmmnphmlmnmaaP11
import Derived.Test.YtclmmnphmlmnmaaP12
import Derived.Test.YtclmmnphmlmnmaaP14
import Derived.Test.YtclmmnphmlmnmaaP16
import Derived.Test.YtclmmnphmlmnmaaP17
import Derived.ChangeArms
import Derived.Deep.Slices
import Derived.WideShapes
import Derived.Carry
section
/- What is drawn: orders of at most nine boats, numbers of short lists; the counts, by evaluation. -/
--! needs LBase LOrd LOrdP LInvs LRankA LUnr LBoA LBoC LDraw LIn spec_DrawFollowOrder spec_DrawRoundsHome spec_DrawCountWithInverted spec_DrawCountWithCycles spec_DrawOrderOfRank spec_l1Cur_among spec_l1Cur_order spec_l1Cur_sureOrder spec_l1Cur_one spec_l1Own impl_CountWithInverted spec_CountWithInverted impl_CountWithCycles spec_CountWithCycles spec_OrderOfRank
namespace Go.Proofs.Ytclmmnphmlmnmaa.X
open Go.Proofs.Ytclmmnphmlmnmaa.Sq Go.RowKit Go.Proofs.YtclmmnphmlmnmaaW.PrintWords Go.Proofs.YtclmmnphmlmnmaaW.PrintLast Go.Proofs.YtclmmnphmlmnmaaW.PrintMore
attribute [local go_sem] max2_int min2_int max_two min_two max_three min_three max_four min_four   -- for this text's walks alone
set_option linter.unusedVariables false
set_option linter.unusedSimpArgs false
theorem amongB_ok {c : List Int} (hc : bytesOk c) (i s : Int) (l : List Int) (h0 : 0 ≤ i) (hB : i ≤ 1000000000) (hl : 1 ≤ l.length) (hl2 : l.length ≤ 1000) : ∃ v i' s', spec_l1Cur_among.f c i s l = some (v, i', s') ∧ i ≤ i' ∧ i' ≤ i + 2 ∧ v ∈ l := by
  obtain ⟨v, i', s', e, v0, v1, _, h1, h2⟩ := pick_ok hc i s (l.length : Int) h0 hB (by omega)
  unfold spec_l1Cur_among.f
  have v2 := v1 (by omega)
  rw [e]
  simp only [Option.bind_some]
  rw [if_pos v0, if_pos v2]
  refine ⟨_, _, _, rfl, h1, h2, ?_⟩
  unfold rd
  rw [List.getD_eq_getElem?_getD, List.getElem?_eq_getElem (show v.toNat < l.length by omega)]
  exact List.getElem_mem _
theorem own_ok (l : List Int) (h : l.length ≤ 1000) : spec_l1Own.f l = some l := by
  unfold spec_l1Own.f
  simp only [Option.bind_some, List.length_nil, Nat.zero_add, List.nil_append]
  rw [if_pos (by omega)]
/-- A list that grows by one at a drawn place, till it has n. -/
theorem sure_l0 {c : List Int} (hc : bytesOk c) (T : Int) (hT : T ≤ 100000000) (n : Nat) (hn : n ≤ 100) : ∀ (e : Nat) (L : List Int) (m : Nat) (i s : Int), L.length + 1 = m → m + e = n + 1 → 0 ≤ i → i ≤ T + 2 * (m : Int) → ∃ R i' s', R.length = n ∧ i ≤ i' ∧ i' ≤ T + 2 * ((n : Int) + 1) ∧ Ev (fun k => spec_l1Cur_sureOrder.l0 k L (n : Int) (m : Int) c i s) (R, i', s') := by
  intro e
  induction e with
  | zero =>
    intro L m i s hL hm h0 hB
    refine ⟨L, i, s, by omega, by omega, by omega, ?_⟩
    exact Ev.step (fun k => by rw [spec_l1Cur_sureOrder.l0]) (evNeg (by omega) (evSome rfl))
  | succ e ih =>
    intro L m i s hL hm h0 hB
    obtain ⟨v, i1, s1, ev, v0, v1, _, h1, h2⟩ := pick_ok hc i s ((L.length : Int) + 1) h0 (by omega) (by omega)
    have v2 := v1 (by omega)
    obtain ⟨w, rfl⟩ : ∃ w : Nat, v = (w : Int) := ⟨v.toNat, by omega⟩
    obtain ⟨R, i2, s2, hR, h3, h4, hE⟩ := ih (L.take w ++ [(m : Int)] ++ L.drop w) (m + 1) i1 s1 (by simp; omega) (by omega) (by omega) (by omega)
    refine ⟨R, i2, s2, hR, by omega, h4, ?_⟩
    refine Ev.step (fun k => by rw [spec_l1Cur_sureOrder.l0]) ?_
    rw [w64 (x := (L.length : Int) + 1) (by omega) (by omega), i1b m (by omega)]
    refine evPos (by omega) (evBind0 ev (evPos (by omega) (evPos (by omega) ?_)))
    simp only [Int.toNat_natCast]
    refine evBind0 (own_ok _ (by rw [List.length_take]; omega)) (evPos (by rw [List.length_take]; omega) (evBind0 rfl (evBind0 rfl (evPos (by simp; omega) hE))))
theorem order_ok {c : List Int} (hc : bytesOk c) (i s : Int) (h0 : 0 ≤ i) (hB : i ≤ 10000000) : ∃ R i' s', R.length ≤ 9 ∧ 0 ≤ i' ∧ i' ≤ i + 50 ∧ Ev (fun k => spec_l1Cur_order.f k c i s) (R, i', s') := by
  obtain ⟨v, i1, s1, ev, v0, v1, _, h1, h2⟩ := pick_ok hc i s 12 h0 (by omega) (by omega)
  have eo : spec_l1Cur_one.f c i s 12 = some ((v == 0), i1, s1) := by
    unfold spec_l1Cur_one.f
    rw [ev]
    rfl
  unfold spec_l1Cur_order.f
  by_cases hv : (v == 0) = true
  · obtain ⟨w, i2, s2, e2, w0, w1, _, h3, h4⟩ := pick_ok hc i1 s1 7 (by omega) (by omega) (by omega)
    have w2 := w1 (by omega)
    refine ⟨rd_L2 [[], [0], [2], [1, 1], [-1, 2], [9, 8, 7, 6, 5, 4, 3, 2, 1], [8, 7, 6, 5, 4, 3, 2, 1]] w, i2, s2, ?_, by omega, by omega, ?_⟩
    · have hw : w = 0 ∨ w = 1 ∨ w = 2 ∨ w = 3 ∨ w = 4 ∨ w = 5 ∨ w = 6 := by omega
      rcases hw with rfl | rfl | rfl | rfl | rfl | rfl | rfl <;> decide
    · exact evBind0 eo (evPos hv (evBind0 rfl (evBind0 e2 (evPos w0 (evPos w2 (evSome rfl))))))
  · obtain ⟨w, i2, s2, e2, w0, w1, _, h3, h4⟩ := pick_ok hc i1 s1 7 (by omega) (by omega) (by omega)
    have w2 := w1 (by omega)
    obtain ⟨u, rfl⟩ : ∃ u : Nat, w = (u : Int) := ⟨w.toNat, by omega⟩
    obtain ⟨R, i3, s3, hR, h5, h6, hE⟩ := sure_l0 hc (i + 10) (by omega) (1 + u) (by omega) (1 + u) [] 1 i2 s2 rfl (by omega) (by omega) (by omega)
    refine ⟨R, i3, s3, by omega, by omega, by omega, ?_⟩
    have hs : Ev (fun k => spec_l1Cur_sureOrder.f k c i1 s1) (R, i3, s3) := by
      unfold spec_l1Cur_sureOrder.f
      refine evBind0 e2 ?_
      rw [show wrap64 (1 + (u : Int)) = ((1 + u : Nat) : Int) from (w64 (by omega) (by omega)).trans (by omega)]
      exact hE
    exact evBind0 eo (evNeg hv (Ev.bind hs (evSome rfl)))
theorem drawRounds_ok {c : List Int} (hc : bytesOk c) : ∃ R, R.length ≤ 9 ∧ Ev (fun k => spec_DrawRoundsHome.f k c) R := by
  obtain ⟨R, i', s', hR, _, _, hE⟩ := order_ok hc 0 0 (by omega) (by omega)
  refine ⟨R, hR, ?_⟩
  unfold spec_DrawRoundsHome.f spec_DrawIsOrder.f
  exact Ev.bind (Ev.bind hE (evSome rfl)) (evSome rfl)
theorem fdraw_l0 {c : List Int} (hc : bytesOk c) (A : List Int) (hn : A.length ≤ 100) : ∀ (e : Nat) (L : List Int) (m : Nat) (i s : Int), L.length + 1 = m → m + e = A.length + 1 → 0 ≤ i → i ≤ 3000000 + 2 * (m : Int) → ∃ R, R.length = A.length ∧ Ev (fun k => spec_DrawFollowOrder.l0 k A L (m : Int) c i s) (A, R) := by
  intro e
  induction e with
  | zero =>
    intro L m i s hL hm h0 hB
    refine ⟨L, by omega, ?_⟩
    exact Ev.step (fun k => by rw [spec_DrawFollowOrder.l0]) (evNeg (by omega) (evSome rfl))
  | succ e ih =>
    intro L m i s hL hm h0 hB
    obtain ⟨v, i1, s1, ev, v0, v1, _, h1, h2⟩ := pick_ok hc i s ((L.length : Int) + 1) h0 (by omega) (by omega)
    have v2 := v1 (by omega)
    obtain ⟨w, rfl⟩ : ∃ w : Nat, v = (w : Int) := ⟨v.toNat, by omega⟩
    obtain ⟨R, hR, hE⟩ := ih (L.take w ++ [(m : Int)] ++ L.drop w) (m + 1) i1 s1 (by simp; omega) (by omega) (by omega) (by omega)
    refine ⟨R, hR, ?_⟩
    refine Ev.step (fun k => by rw [spec_DrawFollowOrder.l0]) ?_
    rw [w64 (x := (L.length : Int) + 1) (by omega) (by omega), i1b m (by omega)]
    refine evPos (by omega) (evBind0 ev (evPos (by omega) (evPos (by omega) ?_)))
    simp only [Int.toNat_natCast]
    refine evBind0 (own_ok _ (by rw [List.length_take]; omega)) (evPos (by rw [List.length_take]; omega) (evBind0 rfl (evBind0 rfl (evPos (by simp; omega) hE))))
theorem drawFollow_ok {c : List Int} (hc : bytesOk c) : ∃ A B : List Int, A.length ≤ 9 ∧ B.length ≤ 9 ∧ Ev (fun k => spec_DrawFollowOrder.f k c) (A, B) := by
  obtain ⟨A, i, s, hA, h0, hB, hE⟩ := order_ok hc 0 0 (by omega) (by omega)
  have other : ∀ (i s : Int), 0 ≤ i → i ≤ 1000 → ∃ B : List Int, B.length ≤ 9 ∧ Ev (fun k => spec_DrawFollowOrder.j0 k A true c i s) (A, B) := by
    intro i s h0 hB
    obtain ⟨R, i', s', hR, _, _, hE⟩ := order_ok hc i s h0 (by omega)
    exact ⟨R, hR, Ev.step (fun k => by rw [spec_DrawFollowOrder.j0]) (evPos rfl (Ev.bind hE (evSome rfl)))⟩
  unfold spec_DrawFollowOrder.f
  cases h1 : ordB A with
  | false =>
    obtain ⟨B, hB', hE'⟩ := other i s h0 (by omega)
    refine ⟨A, B, hA, hB', Ev.bind hE (Ev.bind (ptGood_ev A) ?_)⟩
    rw [h1]
    exact evNeg (by simp) hE'
  | true =>
    obtain ⟨v, i1, s1, ev, v0, v1, _, h2, h3⟩ := pick_ok hc i s 8 h0 (by omega) (by omega)
    have eo : spec_l1Cur_one.f c i s 8 = some ((v == 0), i1, s1) := by
      unfold spec_l1Cur_one.f
      rw [ev]
      rfl
    by_cases hv : (v == 0) = true
    · obtain ⟨B, hB', hE'⟩ := other i1 s1 (by omega) (by omega)
      refine ⟨A, B, hA, hB', Ev.bind hE (Ev.bind (ptGood_ev A) ?_)⟩
      rw [h1]
      refine evPos rfl (evBind0 eo ?_)
      rw [hv]
      exact hE'
    · obtain ⟨B, hB', hE'⟩ := fdraw_l0 hc A (by omega) A.length [] 1 i1 s1 rfl (by omega) (by omega) (by omega)
      refine ⟨A, B, hA, by omega, Ev.bind hE (Ev.bind (ptGood_ev A) ?_)⟩
      rw [h1]
      refine evPos rfl (evBind0 eo ?_)
      rw [Bool.eq_false_iff.2 hv]
      have hE2 : Ev (fun k => spec_DrawFollowOrder.l0 k A [] 1 c i1 s1) (A, B) := hE'
      show Ev (fun k => spec_DrawFollowOrder.j0 k A false c i1 s1) (A, B)
      refine Ev.step (fun k => by rw [spec_DrawFollowOrder.j0]) ?_
      exact evNeg (by simp) hE2
/-! ### Counts, by evaluation -/
def boatsD : List Int := [1, 2, 3, 4, 5, 8, 9, 0]
def invD : List Int := [0, 1, 2, 3, 5, 8, 28, 29, -1, 4611686018427387904]
def cycD : List Int := [0, 1, 2, 3, 5, 8, 9, -1, 4611686018427387904]
def rankD : List Int := [0, 1, 2, 4, 5, 17, 40319, 40320, -1, 4611686018427387904]
def cwI (b i : Int) : Int × Bool := (impl_CountWithInverted.f 700 b i).getD (0, false)
def chkI (b i : Int) : Bool := (impl_CountWithInverted.f 700 b i == some (cwI b i)) && (spec_CountWithInverted.f 700 b i == some (cwI b i)) && (!((cwI b i).2 && decide (1 < b)) || (decide (2 ≤ b ∧ b ≤ 8) && (if i ≤ b * (b - 1) / 2 then (impl_CountWithInverted.f 700 b (b * (b - 1) / 2 - i) == some ((cwI b i).1, true)) && decide (1 ≤ (cwI b i).1 ∧ (cwI b i).1 ≤ ((fct b.toNat : Nat) : Int)) else decide ((cwI b i).1 = 0))))
theorem chkI_all : ∀ b ∈ boatsD, ∀ i ∈ invD, chkI b i = true := by decide +kernel
def cwC (n c : Int) : Int × Bool := (impl_CountWithCycles.f 300 n c).getD (0, false)
def sumC (n : Int) : Nat → Int
 | 0 => 0
 | j + 1 => sumC n j + (cwC n ((j : Int) + 1)).1
def chkC (n c : Int) : Bool := (impl_CountWithCycles.f 300 n c == some (cwC n c)) && (spec_CountWithCycles.f 300 n c == some (cwC n c)) && (!(cwC n c).2 || (decide (1 ≤ n ∧ n ≤ 8) && ((List.range n.toNat).all fun j => (impl_CountWithCycles.f 300 n ((j : Int) + 1) == some ((cwC n ((j : Int) + 1)).1, true)) && decide (1 ≤ (cwC n ((j : Int) + 1)).1 ∧ (cwC n ((j : Int) + 1)).1 ≤ 40320)) && decide (sumC n n.toNat = ((fct n.toNat : Nat) : Int)) && ((decide (c = 0 ∨ n < c)) == decide ((cwC n c).1 = 0))))
theorem chkC_all : ∀ b ∈ boatsD, ∀ i ∈ cycD, chkC b i = true := by decide +kernel
theorem chkO_all : ∀ b ∈ boatsD, ∀ i ∈ rankD, (spec_OrderOfRank.f 60 b i == some (ordF b i)) = true := by decide +kernel
theorem drawI_ok {c : List Int} (hc : bytesOk c) : ∃ b i, b ∈ boatsD ∧ i ∈ invD ∧ spec_DrawCountWithInverted.f c = some (b, i) := by
  obtain ⟨b, i1, s1, e1, h1, h2, hb⟩ := amongB_ok hc 0 0 boatsD (by omega) (by omega) (by decide) (by decide)
  obtain ⟨i, i2, s2, e2, _, _, hi⟩ := amongB_ok hc i1 s1 invD (by omega) (by omega) (by decide) (by decide)
  refine ⟨b, i, hb, hi, ?_⟩
  unfold spec_DrawCountWithInverted.f
  unfold boatsD at e1
  unfold invD at e2
  rw [e1]
  simp only [Option.bind_some]
  rw [e2]
  rfl
theorem drawC_ok {c : List Int} (hc : bytesOk c) : ∃ b i, b ∈ boatsD ∧ i ∈ cycD ∧ spec_DrawCountWithCycles.f c = some (b, i) := by
  obtain ⟨b, i1, s1, e1, h1, h2, hb⟩ := amongB_ok hc 0 0 boatsD (by omega) (by omega) (by decide) (by decide)
  obtain ⟨i, i2, s2, e2, _, _, hi⟩ := amongB_ok hc i1 s1 cycD (by omega) (by omega) (by decide) (by decide)
  refine ⟨b, i, hb, hi, ?_⟩
  unfold spec_DrawCountWithCycles.f
  unfold boatsD at e1
  unfold cycD at e2
  rw [e1]
  simp only [Option.bind_some]
  rw [e2]
  rfl
theorem drawO_ok {c : List Int} (hc : bytesOk c) : ∃ b i, b ∈ boatsD ∧ i ∈ rankD ∧ spec_DrawOrderOfRank.f c = some (b, i) := by
  obtain ⟨b, i1, s1, e1, h1, h2, hb⟩ := amongB_ok hc 0 0 boatsD (by omega) (by omega) (by decide) (by decide)
  obtain ⟨i, i2, s2, e2, _, _, hi⟩ := amongB_ok hc i1 s1 rankD (by omega) (by omega) (by decide) (by decide)
  refine ⟨b, i, hb, hi, ?_⟩
  unfold spec_DrawOrderOfRank.f
  unfold boatsD at e1
  unfold rankD at e2
  rw [e1]
  simp only [Option.bind_some]
  rw [e2]
  rfl
end Go.Proofs.Ytclmmnphmlmnmaa.X
end
section
/- A list is the same as itself, as the laws' comparison tells it. -/
--! needs LBase laws_kSame
namespace Go.Proofs.Ytclmmnphmlmnmaa.X
open Go.Proofs.Ytclmmnphmlmnmaa.Sq Go.RowKit Go.Proofs.YtclmmnphmlmnmaaW.PrintWords Go.Proofs.YtclmmnphmlmnmaaW.PrintLast Go.Proofs.YtclmmnphmlmnmaaW.PrintMore
attribute [local go_sem] max2_int min2_int max_two min_two max_three min_three max_four min_four   -- for this text's walks alone
set_option linter.unusedVariables false
set_option linter.unusedSimpArgs false
theorem kSame_self (l : List Int) (hl : l.length ≤ 1000000000) : Ev (fun k => laws_kSame.f k l l) true := by
  unfold laws_kSame.f
  refine evPos rfl ?_
  have key : ∀ e i : Nat, i + e = l.length → Ev (fun k => laws_kSame.l0 k l l ((l.length : Nat) : Int) (i : Int)) true := by
    intro e
    induction e with
    | zero =>
      intro i hi
      refine Ev.step (fun k => by rw [laws_kSame.l0]) ?_
      exact evNeg (by omega) (evSome rfl)
    | succ e ih =>
      intro i hi
      refine Ev.step (fun k => by rw [laws_kSame.l0]) ?_
      rw [show wrap64 ((i : Int) + 1) = ((i + 1 : Nat) : Int) from (w64 (by omega) (by omega)).trans (by omega)]
      exact evPos (by omega) (evPos (by omega) (evPos (by omega) (evPos (by omega) (evPos rfl (ih (i + 1) (by omega))))))
  exact key l.length 0 (by omega)
end Go.Proofs.Ytclmmnphmlmnmaa.X
end
section
/- The law's own rounds: each comes to true. -/
--! needs LBase LOrd LOrdP LInvs LInvB LCycA LPerm LFol LRounds LRankA LUnr LBoA LBoB LBoC LBoD LSameRow laws_FnBoatsFollow
namespace Go.Proofs.Ytclmmnphmlmnmaa.X
open Go.Proofs.Ytclmmnphmlmnmaa.Sq Go.RowKit Go.Proofs.YtclmmnphmlmnmaaW.PrintWords Go.Proofs.YtclmmnphmlmnmaaW.PrintLast Go.Proofs.YtclmmnphmlmnmaaW.PrintMore
attribute [local go_sem] max2_int min2_int max_two min_two max_three min_three max_four min_four   -- for this text's walks alone
set_option linter.unusedVariables false
set_option linter.unusedSimpArgs false
theorem ordB_of {n : Nat} {l : List Int} (h : OrdP n l) (h1 : 1 ≤ n) (h8 : n ≤ 8) : ordB l = true := by
  unfold ordB
  rw [decide_eq_true ((iso_iff l).2 ⟨fun x hx => by rw [h.len]; exact h.range x hx, h.nodup⟩), decide_eq_true (by rw [h.len]; exact ⟨h1, h8⟩)]
  rfl
theorem made_facts (m r : Int) (h : (ordF m r).2 = true) : rankF (ordF m r).1 = (r, true) ∧ (((ordF m r).1.length : Nat) : Int) = m ∧ (ordF m r).1.length ≤ 8 := by
  unfold ordF at h ⊢
  by_cases hc : 1 ≤ m ∧ m ≤ 8 ∧ 0 ≤ r ∧ r < ((fct m.toNat : Nat) : Int)
  · rw [if_pos hc]
    dsimp only
    obtain ⟨hp, hcode⟩ := unr_spec m.toNat (upL m.toNat) r.toNat (upL_len _) (upL_lt _) (by omega)
    have ho : OrdP m.toNat (unr m.toNat (upL m.toNat) r.toNat) := ⟨hp.length_eq.trans (upL_len _), hp.nodup_iff.2 (upL_nodup _), fun x hx => (upL_mem _ x).1 (hp.mem_iff.1 hx)⟩
    refine ⟨?_, by rw [ho.len]; omega, by rw [ho.len]; omega⟩
    unfold rankF
    rw [if_pos (ordB_of ho (by omega) (by omega)), hcode]
    rw [show ((r.toNat : Nat) : Int) = r by omega]
  · rw [if_neg hc] at h
    exact absurd h (by simp)
theorem fin_ev (m r : Int) : Ev (fun k => if (ordF m r).2 = true then ((impl_RankOfOrder.f k (ordF m r).1).bind fun bt744 => (if bt744.2 = true then (if bt744.1 = r then (some (((ordF m r).1.length : Int) == m)) else (none)) else (none))) else (some true)) true := by
  by_cases h : (ordF m r).2 = true
  · obtain ⟨h1, h2, h3⟩ := made_facts m r h
    refine evPos h (Ev.bind (Rank_impl _ (by omega)) ?_)
    rw [h1]
    exact evPos rfl (evPos rfl (evSome (by rw [h2]; simp)))
  · exact evNeg h (evSome rfl)
theorem j8_ev (m r : Int) : Ev (fun k => laws_FnBoatsFollow.j8 k m r (ordF m r).1 (ordF m r).2 false) true :=
  Ev.step (fun k => by rw [laws_FnBoatsFollow.j8]) (evNeg (by simp) (fin_ev m r))
theorem fct_mono8 {j n : Nat} (h : j ≤ n) (h8 : n ≤ 8) : fct j ≤ 40320 := fct_le8 ⟨j, by omega⟩
theorem chkC_facts {n c : Int} (h : chkC n c = true) : impl_CountWithCycles.f 300 n c = some (cwC n c) ∧ spec_CountWithCycles.f 300 n c = some (cwC n c) ∧ ((cwC n c).2 = true → 1 ≤ n ∧ n ≤ 8 ∧ (∀ j : Nat, j < n.toNat → impl_CountWithCycles.f 300 n ((j : Int) + 1) = some ((cwC n ((j : Int) + 1)).1, true) ∧ 1 ≤ (cwC n ((j : Int) + 1)).1 ∧ (cwC n ((j : Int) + 1)).1 ≤ 40320) ∧ sumC n n.toNat = ((fct n.toNat : Nat) : Int) ∧ ((c = 0 ∨ n < c) ↔ (cwC n c).1 = 0)) := by
  unfold chkC at h
  rw [Bool.and_eq_true, Bool.and_eq_true, beq_iff_eq, beq_iff_eq] at h
  obtain ⟨⟨h1, h2⟩, h3⟩ := h
  refine ⟨h1, h2, fun hk => ?_⟩
  rw [hk, Bool.not_true, Bool.false_or, Bool.and_eq_true, Bool.and_eq_true, Bool.and_eq_true, decide_eq_true_eq, decide_eq_true_eq, beq_iff_eq, List.all_eq_true] at h3
  obtain ⟨⟨⟨h4, h5⟩, h6⟩, h7⟩ := h3
  refine ⟨h4.1, h4.2, fun j hj => ?_, h6, ?_⟩
  · have := h5 j (List.mem_range.2 hj)
    rw [Bool.and_eq_true, beq_iff_eq, decide_eq_true_eq] at this
    exact this
  · constructor
    · intro hh
      rw [decide_eq_true hh] at h7
      exact of_decide_eq_true h7.symm
    · intro hh
      rw [decide_eq_true hh] at h7
      exact of_decide_eq_true h7
theorem sumC_bound {n : Int} (h : ∀ j : Nat, j < n.toNat → 1 ≤ (cwC n ((j : Int) + 1)).1 ∧ (cwC n ((j : Int) + 1)).1 ≤ 40320) : ∀ j : Nat, j ≤ n.toNat → 0 ≤ sumC n j ∧ sumC n j ≤ (j : Int) * 40320
 | 0, _ => by simp [sumC]
 | j + 1, hj => by
  have h1 := sumC_bound h j (by omega)
  have h2 := h j (by omega)
  simp only [sumC]
  omega
theorem l2_ev {n c : Int} (h : chkC n c = true) (hk : (cwC n c).2 = true) (m r : Int) : ∀ e j : Nat, j + e = n.toNat → Ev (fun k => laws_FnBoatsFollow.l2 k n c (cwC n c).1 m r (ordF m r).1 (ordF m r).2 (sumC n j) ((fct j : Nat) : Int) ((j : Int) + 1)) true := by
  obtain ⟨_, _, h3⟩ := chkC_facts h
  obtain ⟨h4, h5, h6, h7, h8⟩ := h3 hk
  intro e
  induction e with
  | zero =>
    intro j hj
    refine Ev.step (fun k => by rw [laws_FnBoatsFollow.l2]) ?_
    have e1 : j = n.toNat := by omega
    subst e1
    refine evNeg (by omega) (evPos h7 ?_)
    by_cases hc : c = 0
    · refine evPos hc ?_
      rw [h8.1 (.inl hc)]
      exact j8_ev m r
    · refine evNeg hc ?_
      have : (decide (c > n) != ((cwC n c).1 == 0)) = false := by
        by_cases hcn : n < c
        · rw [h8.1 (.inr hcn), decide_eq_true hcn]; rfl
        · have : ¬ (cwC n c).1 = 0 := fun hz => by rcases h8.2 hz with h9 | h9 <;> omega
          rw [decide_eq_false hcn, beq_eq_false_iff_ne.2 this]; rfl
      rw [this]
      exact j8_ev m r
  | succ e ih =>
    intro j hj
    refine Ev.step (fun k => by rw [laws_FnBoatsFollow.l2]) ?_
    obtain ⟨h9, h10, h11⟩ := h6 j (by omega)
    refine evPos (by omega) (Ev.bind (evM (fun k => impl_CountWithCycles.mono _ _ k) 300 h9) (evPos rfl (evNeg (by dsimp only; omega) ?_)))
    have hb := sumC_bound (n := n) (fun j hj => (h6 j hj).2) j (by omega)
    have hb2 : (j : Int) * 40320 ≤ 8 * 40320 := by omega
    have hf1 := fct_mono8 (j := j) (n := n.toNat) (by omega) (by omega)
    have hf2 := fct_mono8 (j := j + 1) (n := n.toNat) (by omega) (by omega)
    have hfs : fct j * (j + 1) = fct (j + 1) := by rw [fct, Nat.mul_comm]
    dsimp only
    rw [w64 (x := sumC n j + _) (by omega) (by omega), show ((fct j : Nat) : Int) * ((j : Int) + 1) = ((fct (j + 1) : Nat) : Int) by rw [← hfs, Int.natCast_mul]; rfl, w64 (x := ((fct (j + 1) : Nat) : Int)) (by omega) (by omega), show wrap64 ((j : Int) + 1 + 1) = ((j + 1 : Nat) : Int) + 1 from (w64 (by omega) (by omega)).trans (by omega)]
    exact ih (j + 1) (by omega)
theorem j6_ev {n c : Int} (h : chkC n c = true) (m r : Int) : Ev (fun k => laws_FnBoatsFollow.j6 k n c (cwC n c).1 (cwC n c).2 m r (ordF m r).1 (ordF m r).2) true := by
  refine Ev.step (fun k => by rw [laws_FnBoatsFollow.j6]) ?_
  by_cases hk : (cwC n c).2 = true
  · refine evPos hk ?_
    have := l2_ev h hk m r n.toNat 0 (by omega)
    exact this
  · exact evNeg hk (fin_ev m r)
theorem chkI_facts {b i : Int} (h : chkI b i = true) : impl_CountWithInverted.f 700 b i = some (cwI b i) ∧ spec_CountWithInverted.f 700 b i = some (cwI b i) ∧ ((cwI b i).2 = true → 1 < b → 2 ≤ b ∧ b ≤ 8 ∧ (i ≤ b * (b - 1) / 2 → impl_CountWithInverted.f 700 b (b * (b - 1) / 2 - i) = some ((cwI b i).1, true) ∧ 1 ≤ (cwI b i).1 ∧ (cwI b i).1 ≤ ((fct b.toNat : Nat) : Int)) ∧ (¬ i ≤ b * (b - 1) / 2 → (cwI b i).1 = 0)) := by
  unfold chkI at h
  rw [Bool.and_eq_true, Bool.and_eq_true, beq_iff_eq, beq_iff_eq] at h
  obtain ⟨⟨h1, h2⟩, h3⟩ := h
  refine ⟨h1, h2, fun hk hb => ?_⟩
  rw [hk, decide_eq_true hb, Bool.and_true, Bool.not_true, Bool.false_or, Bool.and_eq_true, decide_eq_true_eq] at h3
  obtain ⟨h4, h5⟩ := h3
  refine ⟨h4.1, h4.2, fun hi => ?_, fun hi => ?_⟩
  · rw [if_pos hi, Bool.and_eq_true, beq_iff_eq, decide_eq_true_eq] at h5
    exact h5
  · rw [if_neg hi] at h5
    exact of_decide_eq_true h5
theorem most_eq {b : Int} (h : 2 ≤ b ∧ b ≤ 8) : wrap64 (Int.tdiv (wrap64 (b * (wrap64 (b - 1)))) 2) = b * (b - 1) / 2 ∧ 0 ≤ b * (b - 1) / 2 ∧ b * (b - 1) / 2 ≤ 28 := by
  have : b = 2 ∨ b = 3 ∨ b = 4 ∨ b = 5 ∨ b = 6 ∨ b = 7 ∨ b = 8 := by omega
  rcases this with rfl | rfl | rfl | rfl | rfl | rfl | rfl <;> decide +kernel
theorem l1_ev {b i : Int} (h : chkI b i = true) (hk : (cwI b i).2 = true) (hb : 1 < b) (hi : -10 ≤ i ∧ i ≤ 4611686018427387904) {n c : Int} (hnc : chkC n c = true) (m r : Int) : ∀ e j : Nat, 1 ≤ j → j + e = b.toNat → Ev (fun k => laws_FnBoatsFollow.l1 k b i (cwI b i).1 n c (cwC n c).1 (cwC n c).2 m r (ordF m r).1 (ordF m r).2 ((fct j : Nat) : Int) ((j : Int) + 1)) true := by
  obtain ⟨_, _, h3⟩ := chkI_facts h
  obtain ⟨h4, h5, h6, h7⟩ := h3 hk hb
  obtain ⟨q1, q2, q3⟩ := most_eq ⟨h4, h5⟩
  intro e
  induction e with
  | zero =>
    intro j hj1 hj
    refine Ev.step (fun k => by rw [laws_FnBoatsFollow.l1]) ?_
    have e1 : j = b.toNat := by omega
    subst e1
    refine evNeg (by omega) ?_
    rw [q1]
    generalize hM : b * (b - 1) / 2 = M at q2 q3 h6 h7 ⊢
    by_cases hiM : i ≤ M
    · obtain ⟨h8, h9, h10⟩ := h6 hiM
      refine evPos hiM ?_
      rw [w64 (x := M - i) (by omega) (by omega)]
      exact Ev.bind (evM (fun k => impl_CountWithInverted.mono _ _ k) 700 h8) (evPos rfl (evPos rfl (evNeg (by omega) (evNeg (by omega) (j6_ev hnc m r)))))
    · exact evNeg hiM (evPos (h7 hiM) (j6_ev hnc m r))
  | succ e ih =>
    intro j hj1 hj
    refine Ev.step (fun k => by rw [laws_FnBoatsFollow.l1]) ?_
    have hf1 := fct_mono8 (j := j) (n := b.toNat) (by omega) (by omega)
    have hf2 := fct_mono8 (j := j + 1) (n := b.toNat) (by omega) (by omega)
    have hfs : fct j * (j + 1) = fct (j + 1) := by rw [fct, Nat.mul_comm]
    refine evPos (by omega) ?_
    rw [show ((fct j : Nat) : Int) * ((j : Int) + 1) = ((fct (j + 1) : Nat) : Int) by rw [← hfs, Int.natCast_mul]; rfl, w64 (x := ((fct (j + 1) : Nat) : Int)) (by omega) (by omega), show wrap64 ((j : Int) + 1 + 1) = ((j + 1 : Nat) : Int) + 1 from (w64 (by omega) (by omega)).trans (by omega)]
    exact ih (j + 1) (by omega) (by omega)
theorem j3_ev {b i : Int} (h : chkI b i = true) (hi : -10 ≤ i ∧ i ≤ 4611686018427387904) {n c : Int} (hnc : chkC n c = true) (m r : Int) : Ev (fun k => laws_FnBoatsFollow.j3 k b i (cwI b i).1 (cwI b i).2 n c (cwC n c).1 (cwC n c).2 m r (ordF m r).1 (ordF m r).2) true := by
  have no : Ev (fun k => laws_FnBoatsFollow.j4 k b i (cwI b i).1 n c (cwC n c).1 (cwC n c).2 m r (ordF m r).1 (ordF m r).2 false) true :=
    Ev.step (fun k => by rw [laws_FnBoatsFollow.j4]) (evNeg (by simp) (j6_ev hnc m r))
  refine Ev.step (fun k => by rw [laws_FnBoatsFollow.j3]) ?_
  by_cases hk : (cwI b i).2 = true
  · refine evPos hk ?_
    by_cases hb : b > 1
    · rw [decide_eq_true hb]
      refine Ev.step (fun k => by rw [laws_FnBoatsFollow.j4]) (evPos rfl ?_)
      have := l1_ev h hk hb hi hnc m r (b.toNat - 1) 1 (Nat.le_refl _) (by omega)
      exact this
    · rw [decide_eq_false hb]
      exact no
  · exact evNeg hk no
end Go.Proofs.Ytclmmnphmlmnmaa.X
end
section
/- Rounds that come home: the least common multiple of the cycles' lengths. -/
--! needs LBase LOrd LCycA LPerm LOrdP LFol
namespace Go.Proofs.Ytclmmnphmlmnmaa.X
open Go.Proofs.Ytclmmnphmlmnmaa.Sq Go.RowKit Go.Proofs.YtclmmnphmlmnmaaW.PrintWords Go.Proofs.YtclmmnphmlmnmaaW.PrintLast Go.Proofs.YtclmmnphmlmnmaaW.PrintMore
attribute [local go_sem] max2_int min2_int max_two min_two max_three min_three max_four min_four   -- for this text's walks alone
set_option linter.unusedVariables false
set_option linter.unusedSimpArgs false
theorem cyW_per {n : Nat} {o : List Int} (h : OrdP n o) (s0 : List Bool) (hcl : ∀ q, q < n → (s0.getD q false = true ↔ s0.getD (nxO o q) false = true)) (i : Nat) (hi : i < n) (hs : s0.getD i false = false) :
    ∀ (e k : Nat) (s : List Bool) (c : List Int), s.length = n → c.length = k → s.count false < e → (∀ j, 0 < j → j < k → itF (nxO o) j i ≠ i) → (∀ q, s.getD q false = true ↔ s0.getD q false = true ∨ ∃ j, j < k ∧ q = itF (nxO o) j i) →
    perP (nxO o) i (cyW o e s c (itF (nxO o) k i)).2.length ∧ (∀ q, (cyW o e s c (itF (nxO o) k i)).1.getD q false = true ↔ s0.getD q false = true ∨ ∃ j, q = itF (nxO o) j i) ∧ (cyW o e s c (itF (nxO o) k i)).2.length + (cyW o e s c (itF (nxO o) k i)).1.count false = c.length + s.count false
 | 0, k, s, c, _, _, hc, _, _ => absurd hc (Nat.not_lt_zero _)
 | e + 1, k, s, c, hsl, hcl', hc, hno, hmk => by
  unfold cyW
  have hkn := itF_lt h hi k
  by_cases hz : s.getD (itF (nxO o) k i) false = true
  · rw [if_pos hz]
    have hback : ∀ j, s0.getD (itF (nxO o) j i) false = false := by
      intro j
      induction j with
      | zero => exact hs
      | succ j ih =>
        rw [← Bool.not_eq_true]
        intro hh
        have := (hcl (itF (nxO o) j i) (itF_lt h hi j)).2 hh
        rw [ih] at this
        cases this
    have hret : 0 < k ∧ itF (nxO o) k i = i := by
      rcases (hmk _).1 hz with h0 | ⟨j, hj, he⟩
      · rw [hback k] at h0; cases h0
      · have e1 : itF (nxO o) (k - j) i = i := by
          have e2 : itF (nxO o) j (itF (nxO o) (k - j) i) = itF (nxO o) j i := by rw [← itF_add, show j + (k - j) = k by omega, he]
          exact itF_inj h j _ _ (itF_lt h hi _) hi e2
        by_cases hj0 : j = 0
        · subst hj0
          exact ⟨by omega, by rw [Nat.sub_zero] at e1; exact e1⟩
        · exact absurd e1 (hno (k - j) (by omega) (by omega))
    dsimp only
    refine ⟨⟨by rw [hcl']; exact hret.1, by rw [hcl']; exact hret.2, fun j hj hjk => hno j hj (by rw [← hcl']; exact hjk)⟩, fun q => ?_, rfl⟩
    rw [hmk]
    constructor
    · rintro (h0 | ⟨j, _, he⟩)
      · exact .inl h0
      · exact .inr ⟨j, he⟩
    · rintro (h0 | ⟨j, he⟩)
      · exact .inl h0
      · refine .inr ⟨j % k, Nat.mod_lt _ hret.1, ?_⟩
        have e3 : j = j % k + (j / k) * k := by have := Nat.mod_add_div j k; rw [Nat.mul_comm]; omega
        rw [he]
        conv => lhs; rw [e3]
        rw [itF_add, per_mul hret.2]
  · rw [if_neg hz]
    have hps : itF (nxO o) k i < s.length := by rw [hsl]; exact hkn
    have hcs := cnt_set s (itF (nxO o) k i) hps hz
    have hnot : ∀ j, 0 < j → j < k + 1 → itF (nxO o) j i ≠ i := by
      intro j hj hjk he
      by_cases hjk' : j < k
      · exact hno j hj hjk' he
      · obtain rfl : j = k := by omega
        refine hz ((hmk _).2 (.inr ⟨0, by omega, he⟩))
    have ih := cyW_per h s0 hcl i hi hs e (k + 1) (s.set (itF (nxO o) k i) true) (c ++ [((itF (nxO o) k i : Nat) : Int)]) (by rw [List.length_set]; exact hsl) (by rw [List.length_append, List.length_singleton, hcl']) (by omega) hnot (fun q => by
      rw [getD_setT s _ q hps]
      by_cases hq : q = itF (nxO o) k i
      · rw [if_pos hq]
        exact ⟨fun _ => .inr ⟨k, by omega, hq⟩, fun _ => rfl⟩
      · rw [if_neg hq, hmk]
        constructor
        · rintro (h0 | ⟨j, hj, he⟩)
          · exact .inl h0
          · exact .inr ⟨j, by omega, he⟩
        · rintro (h0 | ⟨j, hj, he⟩)
          · exact .inl h0
          · by_cases hjk : j = k
            · rw [hjk] at he; exact absurd he hq
            · exact .inr ⟨j, by omega, he⟩)
    have e4 : (o.getD (itF (nxO o) k i) 0).toNat - 1 = itF (nxO o) (k + 1) i := rfl
    rw [e4]
    refine ⟨ih.1, ih.2.1, ?_⟩
    rw [ih.2.2, List.length_append, List.length_singleton]
    omega
/-- What the cycles are: each a period of some place; each place of some cycle's orbit; their lengths add up. -/
structure CycOk (n : Nat) (o : List Int) (L : List (List Int)) (s : List Bool) : Prop where
  slen : s.length = n
  closed : ∀ q, q < n → (s.getD q false = true ↔ s.getD (nxO o q) false = true)
  per : ∀ c ∈ L, ∃ p, p < n ∧ perP (nxO o) p c.length
  cover : ∀ q, q < n → s.getD q false = true → ∃ c ∈ L, ∃ p j, p < n ∧ perP (nxO o) p c.length ∧ q = itF (nxO o) j p
  tot : (L.map List.length).sum + s.count false = n
theorem cyA_ok {n : Nat} {o : List Int} (h : OrdP n o) : ∀ (e i : Nat) (s : List Bool) (out : List (List Int)), i + e = n → CycOk n o out s → (∀ q, q < i → s.getD q false = true) →
    ∃ s', CycOk n o (cyA o n e i s out) s' ∧ ∀ q, q < n → s'.getD q false = true
 | 0, i, s, out, hi, hc, hall => ⟨s, hc, fun q hq => hall q (by omega)⟩
 | e + 1, i, s, out, hi, hc, hall => by
  rw [cyA]
  by_cases hz : s.getD i false = true
  · rw [if_pos hz]
    exact cyA_ok h e (i + 1) s out (by omega) hc (fun q hq => by
      by_cases hqi : q = i
      · rw [hqi]; exact hz
      · exact hall q (by omega))
  · rw [if_neg hz]
    have hcnt : s.count false ≤ n := by rw [← hc.slen]; exact List.count_le_length
    have hin : i < n := by omega
    obtain ⟨w1, w2, w3⟩ := cyW_per h s hc.closed i hin (by simpa using hz) (n + 1) 0 s [] hc.slen rfl (by omega) (fun j _ hj => by omega) (fun q => ⟨.inl, fun hh => hh.elim id (fun ⟨j, hj, _⟩ => by omega)⟩)
    have w2' : ∀ q, (cyW o (n + 1) s [] i).1.getD q false = true ↔ s.getD q false = true ∨ ∃ j, q = itF (nxO o) j i := w2
    have w1' : perP (nxO o) i (cyW o (n + 1) s [] i).2.length := w1
    have w3' : (cyW o (n + 1) s [] i).2.length + (cyW o (n + 1) s [] i).1.count false = 0 + s.count false := w3
    refine cyA_ok h e (i + 1) _ _ (by omega) ⟨by rw [cyW_slen]; exact hc.slen, fun q hq => ?_, fun c hcm => ?_, fun q hq hs => ?_, ?_⟩ (fun q hq => ?_)
    · rw [w2', w2']
      constructor
      · rintro (h0 | ⟨j, rfl⟩)
        · exact .inl ((hc.closed q hq).1 h0)
        · exact .inr ⟨j + 1, rfl⟩
      · rintro (h0 | ⟨j, hj⟩)
        · exact .inl ((hc.closed q hq).2 h0)
        · obtain ⟨m0, m1, m2⟩ := w1'
          refine .inr ?_
          generalize (cyW o (n + 1) s [] i).2.length = m at m0 m1 m2
          -- q is one step before f^j i: f^(j + m - 1) i
          refine ⟨j + (m - 1), h.inj hq (itF_lt h hin _) ?_⟩
          rw [hj]
          show _ = itF (nxO o) (j + (m - 1) + 1) i
          rw [show j + (m - 1) + 1 = j + m by omega, itF_add, m1]
    · rcases List.mem_append.1 hcm with hcm | hcm
      · exact hc.per c hcm
      · rw [List.mem_singleton.1 hcm]
        exact ⟨i, hin, w1'⟩
    · rcases (w2' q).1 hs with h0 | ⟨j, hj⟩
      · obtain ⟨c, hcm, p, j, h1, h2, h3⟩ := hc.cover q hq h0
        exact ⟨c, List.mem_append_left _ hcm, p, j, h1, h2, h3⟩
      · exact ⟨_, List.mem_append_right _ (List.mem_singleton_self _), i, j, hin, w1', hj⟩
    · have := hc.tot
      rw [List.map_append, List.sum_append]
      show _ + ([(cyW o (n + 1) s [] i).2.length].sum) + _ = _
      rw [List.sum_singleton]
      omega
    · rw [w2']
      by_cases hqi : q = i
      · exact .inr ⟨0, hqi⟩
      · exact .inl (hall q (by omega))
theorem cycO_ok {n : Nat} {o : List Int} (h : OrdP n o) : ∃ s', CycOk n o (cycO o) s' ∧ ∀ q, q < n → s'.getD q false = true := by
  have hl := h.len
  have h0 : ∀ q, (List.replicate n false).getD q false = false := fun q => by
    rw [List.getD_eq_getElem?_getD, List.getElem?_replicate]
    split <;> rfl
  unfold cycO
  rw [hl]
  refine cyA_ok h n 0 _ [] (Nat.zero_add _) ⟨List.length_replicate, fun q hq => by rw [h0, h0], fun c hc => (List.not_mem_nil hc).elim, fun q _ hq => absurd hq (by rw [h0]; decide), ?_⟩ (fun q hq => absurd hq (Nat.not_lt_zero _))
  rw [List.count_replicate_self]
  simp
def lcmL (l : Nat) (L : List Nat) : Nat := L.foldl (fun a b => a / Nat.gcd a b * b) l
theorem lcm_div (a b : Nat) : a / Nat.gcd a b * b = Nat.lcm a b := by
  rcases Nat.eq_zero_or_pos a with h | h
  · subst h; simp
  · unfold Nat.lcm
    rw [Nat.mul_comm (a / Nat.gcd a b) b, ← Nat.mul_div_assoc _ (Nat.gcd_dvd_left a b), Nat.mul_comm b a]
theorem lcmL_dvd (t : Nat) : ∀ (L : List Nat) (l : Nat), lcmL l L ∣ t ↔ l ∣ t ∧ ∀ x ∈ L, x ∣ t
 | [], l => by simp [lcmL]
 | x :: L, l => by
  show lcmL (l / Nat.gcd l x * x) L ∣ t ↔ _
  rw [lcm_div, lcmL_dvd t L]
  constructor
  · rintro ⟨h1, h2⟩
    refine ⟨Nat.dvd_trans (Nat.dvd_lcm_left l x) h1, fun y hy => ?_⟩
    rcases List.mem_cons.1 hy with rfl | hy
    · exact Nat.dvd_trans (Nat.dvd_lcm_right l y) h1
    · exact h2 y hy
  · rintro ⟨h1, h2⟩
    exact ⟨Nat.lcm_dvd h1 (h2 x (List.mem_cons_self ..)), fun y hy => h2 y (List.mem_cons_of_mem _ hy)⟩
/-- The greatest that comes of lengths which add up to b. -/
def mxL : Nat → Nat → Nat → Nat
 | 0, l, _ => l
 | e + 1, l, b => (List.range b).foldl (fun m k => max m (mxL e (l / Nat.gcd l (k + 1) * (k + 1)) (b - (k + 1)))) l
theorem foldl_max (g : Nat → Nat) : ∀ (L : List Nat) (m : Nat), m ≤ L.foldl (fun m k => max m (g k)) m ∧ ∀ k ∈ L, g k ≤ L.foldl (fun m k => max m (g k)) m
 | [], m => ⟨Nat.le_refl _, fun k hk => (List.not_mem_nil hk).elim⟩
 | x :: L, m => by
  obtain ⟨h1, h2⟩ := foldl_max g L (max m (g x))
  refine ⟨Nat.le_trans (Nat.le_max_left _ _) h1, fun k hk => ?_⟩
  rcases List.mem_cons.1 hk with rfl | hk
  · exact Nat.le_trans (Nat.le_max_right _ _) h1
  · exact h2 k hk
theorem lcmL_mx : ∀ (e : Nat) (L : List Nat) (l b : Nat), L.length ≤ e → L.sum ≤ b → (∀ x ∈ L, 0 < x) → lcmL l L ≤ mxL e l b
 | 0, [], l, b, _, _, _ => Nat.le_refl _
 | 0, x :: L, l, b, h, _, _ => by simp at h
 | e + 1, [], l, b, _, _, _ => (foldl_max _ (List.range b) l).1
 | e + 1, x :: L, l, b, h1, h2, h3 => by
  rw [List.sum_cons] at h2
  have hx := h3 x (List.mem_cons_self ..)
  have ih := lcmL_mx e L (l / Nat.gcd l x * x) (b - x) (by simpa using h1) (by omega) (fun y hy => h3 y (List.mem_cons_of_mem _ hy))
  have h4 := (foldl_max (fun k => mxL e (l / Nat.gcd l (k + 1) * (k + 1)) (b - (k + 1))) (List.range b) l).2 (x - 1) (List.mem_range.2 (by omega))
  rw [show x - 1 + 1 = x by omega] at h4
  exact Nat.le_trans ih h4
def rndN (o : List Int) : Nat := lcmL 1 ((cycO o).map List.length)
theorem sum_pos_len : ∀ L : List Nat, (∀ x ∈ L, 0 < x) → L.length ≤ L.sum
 | [], _ => Nat.le_refl _
 | x :: L, h => by
  have h1 := sum_pos_len L (fun y hy => h y (List.mem_cons_of_mem _ hy))
  have h2 := h x (List.mem_cons_self ..)
  rw [List.length_cons, List.sum_cons]
  omega
theorem rnd_facts {n : Nat} {o : List Int} (h : OrdP n o) (hn : n ≤ 8) : 0 < rndN o ∧ rndN o ≤ 20 ∧ ∀ t, powL o t = upL n ↔ rndN o ∣ t + 1 := by
  obtain ⟨s, hc, hall⟩ := cycO_ok h
  have hpos : ∀ x ∈ (cycO o).map List.length, 0 < x := fun x hx => by
    obtain ⟨c, hcm, rfl⟩ := List.mem_map.1 hx
    obtain ⟨p, _, hp⟩ := hc.per c hcm
    exact hp.1
  have hdv : ∀ t, rndN o ∣ t ↔ ∀ p, p < n → itF (nxO o) t p = p := by
    intro t
    unfold rndN
    rw [lcmL_dvd]
    constructor
    · rintro ⟨_, h2⟩ q hq
      obtain ⟨c, hcm, p, j, hp, hper, rfl⟩ := hc.cover q hq (hall q hq)
      exact (per_orbit h hp j t).2 ((per_iff hper t).2 (h2 _ (List.mem_map.2 ⟨c, hcm, rfl⟩)))
    · intro h2
      refine ⟨Nat.one_dvd _, fun x hx => ?_⟩
      obtain ⟨c, hcm, rfl⟩ := List.mem_map.1 hx
      obtain ⟨p, hp, hper⟩ := hc.per c hcm
      exact (per_iff hper t).1 (h2 p hp)
  have hle : rndN o ≤ 20 := by
    have h1 := sum_pos_len _ hpos
    have h2 := hc.tot
    have h3 := lcmL_mx 8 ((cycO o).map List.length) 1 8 (by omega) (by omega) hpos
    have h4 : mxL 8 1 8 ≤ 20 := by decide +kernel
    exact Nat.le_trans h3 h4
  refine ⟨?_, hle, fun t => by rw [powL_home h t, hdv]⟩
  rcases Nat.eq_zero_or_pos (rndN o) with h0 | h0
  · exfalso
    -- some number above 0 comes home: a common one of all lengths
    have hall2 : ∀ (L : List Nat) (l : Nat), 0 < l → (∀ x ∈ L, 0 < x) → 0 < lcmL l L := by
      intro L
      induction L with
      | nil => intro l hl _; exact hl
      | cons x L ih =>
        intro l hl hL
        show 0 < lcmL (l / Nat.gcd l x * x) L
        rw [lcm_div]
        exact ih _ (Nat.lcm_pos hl (hL x (List.mem_cons_self ..))) (fun y hy => hL y (List.mem_cons_of_mem _ hy))
    have := hall2 ((cycO o).map List.length) 1 (by omega) hpos
    unfold rndN at h0
    omega
  · exact h0
end Go.Proofs.Ytclmmnphmlmnmaa.X
end
section
/- Rounds home: the least common multiple of the cycles' lengths, and the rounds counted. -/
--! needs LBase LOrd LOrdP LInvs LCycA LPerm LFol LRounds LRankA LBoA impl_common impl_RoundsHome spec_RoundsHome spec_ptInverted spec_ptFollow
namespace Go.Proofs.Ytclmmnphmlmnmaa.X
open Go.Proofs.Ytclmmnphmlmnmaa.Sq Go.RowKit Go.Proofs.YtclmmnphmlmnmaaW.PrintWords Go.Proofs.YtclmmnphmlmnmaaW.PrintLast Go.Proofs.YtclmmnphmlmnmaaW.PrintMore
attribute [local go_sem] max2_int min2_int max_two min_two max_three min_three max_four min_four   -- for this text's walks alone
set_option linter.unusedVariables false
set_option linter.unusedSimpArgs false
theorem common_l0 : ∀ (y x : Nat), x ≤ 1000000 → y ≤ 1000000 → Ev (fun k => impl_common.l0 k (x : Int) (y : Int)) ((Nat.gcd x y : Nat) : Int) := by
  intro y
  induction y using Nat.strongRecOn with
  | _ y ih =>
    intro x hx hy
    refine Ev.step (fun k => by rw [impl_common.l0]) ?_
    by_cases h0 : y = 0
    · subst h0
      refine evNeg (by omega) (evSome ?_)
      rw [Nat.gcd_zero_right]
    · refine evPos (by omega) (evNeg (by omega) ?_)
      have e : Int.tmod (x : Int) (y : Int) = ((x % y : Nat) : Int) := rfl
      rw [e]
      have hlt := Nat.mod_lt x (show 0 < y by omega)
      refine evEq (ih (x % y) hlt y hy (by omega)) ?_
      rw [Nat.gcd_comm x y, Nat.gcd_rec y x, Nat.gcd_comm]
theorem common_ev (x y : Nat) (hx : x ≤ 1000000) (hy : y ≤ 1000000) : Ev (fun k => impl_common.f k (x : Int) (y : Int)) ((Nat.gcd x y : Nat) : Int) := by
  unfold impl_common.f
  exact common_l0 y x hx hy
theorem rounds_impl_l0 (C : List (List Int)) (hC : C.length ≤ 100) (hc : ∀ c ∈ C, 1 ≤ c.length ∧ c.length ≤ 100) : ∀ (e i l : Nat), i + e = C.length → 0 < l → lcmL l ((C.drop i).map List.length) ≤ 1000 → 0 < lcmL l ((C.drop i).map List.length) → Ev (fun k => impl_RoundsHome.l0 k (l : Int) C (C.length : Int) (i : Int)) (((lcmL l ((C.drop i).map List.length) : Nat) : Int), true) := by
  intro e
  induction e with
  | zero =>
    intro i l hi hl h1 h2
    refine Ev.step (fun k => by rw [impl_RoundsHome.l0]) ?_
    refine evNeg (by omega) (evSome ?_)
    rw [List.drop_of_length_le (by omega)]
    rfl
  | succ e ih =>
    intro i l hi hl h1 h2
    refine Ev.step (fun k => by rw [impl_RoundsHome.l0]) ?_
    have hm := hc (C.getD i []) (by rw [← getElem_getD C i [] (by omega)]; exact List.getElem_mem _)
    have er : rd_L2 C (i : Int) = C.getD i [] := by unfold rd_L2; rw [Int.toNat_natCast]
    rw [getD_drop_cons C i [] (by omega), List.map_cons] at h1 h2 ⊢
    have ed : ∀ (a : Nat) (L : List Nat), lcmL l (a :: L) = lcmL (l / Nat.gcd l a * a) L := fun a L => rfl
    rw [ed] at h1 h2 ⊢
    generalize hq : C.getD i [] = c at hm er h1 h2 ⊢
    have hll : l ∣ lcmL (l / Nat.gcd l c.length * c.length) ((C.drop (i + 1)).map List.length) := by
      have h3 := (lcmL_dvd (lcmL (l / Nat.gcd l c.length * c.length) ((C.drop (i + 1)).map List.length)) ((C.drop (i + 1)).map List.length) (l / Nat.gcd l c.length * c.length)).1 (Nat.dvd_refl _)
      rw [lcm_div] at h3 ⊢
      exact Nat.dvd_trans (Nat.dvd_lcm_left _ _) h3.1
    have hle := Nat.le_of_dvd h2 hll
    have hm1 : l / Nat.gcd l c.length * c.length ∣ lcmL (l / Nat.gcd l c.length * c.length) ((C.drop (i + 1)).map List.length) := ((lcmL_dvd _ ((C.drop (i + 1)).map List.length) (l / Nat.gcd l c.length * c.length)).1 (Nat.dvd_refl _)).1
    have hle1 := Nat.le_of_dvd h2 hm1
    have hpos : 0 < l / Nat.gcd l c.length * c.length := Nat.pos_of_dvd_of_pos hm1 h2
    have hg : 0 < Nat.gcd l c.length := Nat.gcd_pos_of_pos_left _ hl
    rw [er, i1b i (by omega)]
    refine evPos (by omega) (evPos (by omega) (evPos (by omega) (Ev.bind (common_ev l c.length (by omega) (by omega)) (evNeg (by omega) ?_))))
    have ediv : Int.tdiv (l : Int) ((Nat.gcd l c.length : Nat) : Int) = ((l / Nat.gcd l c.length : Nat) : Int) := rfl
    have hdl := Nat.div_le_self l (Nat.gcd l c.length)
    have hl1000 : l ≤ 1000 := by omega
    generalize l / Nat.gcd l c.length = q at ediv hdl h1 h2 hle1 hpos ⊢
    rw [ediv, w64 (x := (q : Int)) (by omega) (by omega), ← Int.natCast_mul, w64 (by omega) (by omega)]
    exact ih (i + 1) _ (by omega) hpos h1 h2
theorem mem_le_sum : ∀ (L : List Nat) (x : Nat), x ∈ L → x ≤ L.sum
 | [], x, h => (List.not_mem_nil h).elim
 | y :: L, x, h => by
  rw [List.sum_cons]
  rcases List.mem_cons.1 h with rfl | h
  · omega
  · have := mem_le_sum L x h
    omega
theorem cyc_small {n : Nat} {o : List Int} (h : OrdP n o) (hn : n ≤ 8) : (cycO o).length ≤ 100 ∧ ∀ c ∈ cycO o, 1 ≤ c.length ∧ c.length ≤ 100 := by
  obtain ⟨s, hc, _⟩ := cycO_ok h
  have hpos : ∀ x ∈ (cycO o).map List.length, 0 < x := fun x hx => by
    obtain ⟨c, hcm, rfl⟩ := List.mem_map.1 hx
    obtain ⟨p, _, hp⟩ := hc.per c hcm
    exact hp.1
  have h1 := sum_pos_len _ hpos
  have h2 := hc.tot
  rw [List.length_map] at h1
  refine ⟨by omega, fun c hcm => ?_⟩
  have hm : c.length ∈ (cycO o).map List.length := List.mem_map.2 ⟨c, hcm, rfl⟩
  have h3 := hpos _ hm
  have h4 := mem_le_sum _ _ hm
  omega
def rndF (o : List Int) : Int × Bool := if ordB o = true then (((rndN o : Nat) : Int), true) else (0, false)
theorem rounds_spec_l0 {n : Nat} {o : List Int} (h : OrdP n o) (hn : n ≤ 8) : ∀ (e j : Nat), j + 1 + e = rndN o → Ev (fun k => spec_RoundsHome.l0 k o ((j + 1 : Nat) : Int) (powL o j)) (((rndN o : Nat) : Int), true) := by
  obtain ⟨r1, r2, r3⟩ := rnd_facts h hn
  intro e
  induction e with
  | zero =>
    intro j hj
    refine Ev.step (fun k => by rw [spec_RoundsHome.l0]) ?_
    have hp := powL_ord h j
    have hz : invs (powL o j) = 0 := (invs_home hp).2 ((r3 j).2 (by rw [show j + 1 = rndN o by omega]; exact Nat.dvd_refl _))
    refine Ev.bind (ptInverted_ev _ (by rw [hp.len]; omega)) ?_
    rw [hz]
    refine evNeg (by omega) (evSome ?_)
    rw [show j + 1 = rndN o by omega]
  | succ e ih =>
    intro j hj
    refine Ev.step (fun k => by rw [spec_RoundsHome.l0]) ?_
    have hp := powL_ord h j
    have hz : 0 < invs (powL o j) := by
      rcases Nat.eq_zero_or_pos (invs (powL o j)) with hz | hz
      · have := (r3 j).1 ((invs_home hp).1 hz)
        have := Nat.le_of_dvd (by omega) this
        omega
      · exact hz
    refine Ev.bind (ptInverted_ev _ (by rw [hp.len]; omega)) (evPos (by omega) ?_)
    refine Ev.bind (ptFollow_ev (a := powL o j) (b := o) (fun x hx => by have := hp.range x hx; rw [h.len]; exact this) (by rw [hp.len]; omega) (by rw [h.len]; omega)) ?_
    rw [i1b (j + 1) (by omega)]
    exact ih (j + 1) (by omega)
theorem Rounds_spec (o : List Int) : Ev (fun k => spec_RoundsHome.f k o) (rndF o) := by
  unfold spec_RoundsHome.f rndF
  refine Ev.bind (ptGood_ev o) ?_
  cases h1 : ordB o with
  | false => rw [if_neg (by simp)]; exact evNeg (by simp) (evSome rfl)
  | true =>
    rw [if_pos rfl]
    have h8 := ordB_len o h1
    have h := OrdP.of_ordB h1
    obtain ⟨r1, _, _⟩ := rnd_facts h h8.2
    exact evPos rfl (rounds_spec_l0 h h8.2 (rndN o - 1) 0 (by omega))
theorem Rounds_impl (o : List Int) (hl : o.length ≤ 100000) : Ev (fun k => impl_RoundsHome.f k o) (rndF o) := by
  unfold impl_RoundsHome.f rndF
  refine evBind0 (IsOrder_eq o (by omega)) ?_
  cases h1 : ordB o with
  | false => rw [if_neg (by simp)]; exact evNeg (by simp) (evSome rfl)
  | true =>
    rw [if_pos rfl]
    have h8 := ordB_len o h1
    have h := OrdP.of_ordB h1
    obtain ⟨r1, r2, _⟩ := rnd_facts h h8.2
    refine evPos rfl (Ev.bind (cycles_impl o (ordB_good o h1) h8.2) ?_)
    have hC := cyc_small h h8.2
    have := rounds_impl_l0 (cycO o) hC.1 hC.2 (cycO o).length 0 1 (Nat.zero_add _) (by omega)
    rw [List.drop_zero] at this
    exact this (by show rndN o ≤ 1000; omega) r1
end Go.Proofs.Ytclmmnphmlmnmaa.X
end
section
/- The back order has as many inverted. -/
--! needs LBase LOrd LInvs LOrdP LPerm LFol
namespace Go.Proofs.Ytclmmnphmlmnmaa.X
open Go.Proofs.Ytclmmnphmlmnmaa.Sq Go.RowKit Go.Proofs.YtclmmnphmlmnmaaW.PrintWords Go.Proofs.YtclmmnphmlmnmaaW.PrintLast Go.Proofs.YtclmmnphmlmnmaaW.PrintMore
attribute [local go_sem] max2_int min2_int max_two min_two max_three min_three max_four min_four   -- for this text's walks alone
set_option linter.unusedVariables false
set_option linter.unusedSimpArgs false
def sumR (n : Nat) (g : Nat → Nat) : Nat := ((List.range n).map g).sum
theorem sum_perm {l m : List Nat} (h : l.Perm m) : l.sum = m.sum := by
  induction h with
  | nil => rfl
  | cons x _ ih => rw [List.sum_cons, List.sum_cons, ih]
  | swap x y l => rw [List.sum_cons, List.sum_cons, List.sum_cons, List.sum_cons]; omega
  | trans _ _ h1 h2 => rw [h1, h2]
theorem sumR_congr {n : Nat} {g h : Nat → Nat} (e : ∀ i, i < n → g i = h i) : sumR n g = sumR n h := by
  unfold sumR
  congr 1
  exact List.map_congr_left (fun i hi => e i (List.mem_range.1 hi))
theorem perm_of_len' : ∀ (l m : List Nat), l.Nodup → (∀ x ∈ l, x ∈ m) → m.length ≤ l.length → l.Perm m
 | [], m, _, _, h => by
  obtain rfl : m = [] := List.eq_nil_of_length_eq_zero (by simpa using h)
  exact List.Perm.refl _
 | a :: l, m, hn, hs, h => by
  have ha : a ∈ m := hs a (List.mem_cons_self ..)
  have hn2 := List.nodup_cons.1 hn
  have hl := perm_of_len' l (m.erase a) hn2.2 (fun x hx => by
    have hne : x ≠ a := fun e => hn2.1 (e ▸ hx)
    exact (List.mem_erase_of_ne hne).2 (hs x (List.mem_cons_of_mem _ hx))) (by
    rw [List.length_erase_of_mem ha]
    simp at h
    omega)
  exact (List.Perm.cons a hl).trans (List.perm_cons_erase ha).symm
theorem sumR_map {n : Nat} {o : List Int} (h : OrdP n o) (g : Nat → Nat) : sumR n (fun p => g (nxO o p)) = sumR n g := by
  unfold sumR
  have hp : ((List.range n).map (nxO o)).Perm (List.range n) := perm_of_len' _ _ (by
    rw [List.Nodup, List.pairwise_map]
    refine List.pairwise_iff_getElem.2 (fun i j hi' hj' hij he => ?_)
    rw [List.length_range] at hi' hj'
    rw [List.getElem_range, List.getElem_range] at he
    have := h.inj hi' hj' he
    omega) (fun x hx => by
    obtain ⟨p, hp, rfl⟩ := List.mem_map.1 hx
    exact List.mem_range.2 (h.at (List.mem_range.1 hp)).2) (by simp)
  have h2 := sum_perm (hp.map g)
  rw [List.map_map] at h2
  exact h2
theorem sumR_add (n : Nat) (g h : Nat → Nat) : sumR n (fun i => g i + h i) = sumR n g + sumR n h := by
  unfold sumR
  induction List.range n with
  | nil => rfl
  | cons x l ih => rw [List.map_cons, List.map_cons, List.map_cons, List.sum_cons, List.sum_cons, List.sum_cons, ih]; omega
theorem sumR_zero (n : Nat) : sumR n (fun _ => 0) = 0 := by
  unfold sumR
  induction List.range n with
  | nil => rfl
  | cons x l ih => rw [List.map_cons, List.sum_cons, ih]
theorem sumR_swap (n : Nat) : ∀ (m : Nat) (g : Nat → Nat → Nat), sumR n (fun i => sumR m (fun j => g i j)) = sumR m (fun j => sumR n (fun i => g i j))
 | 0, g => by
  show sumR n (fun _ => 0) = 0
  exact sumR_zero n
 | m + 1, g => by
  have e : ∀ (f : Nat → Nat), sumR (m + 1) f = sumR m f + f m := fun f => by
    unfold sumR
    rw [List.range_succ, List.map_append, List.sum_append]
    simp
  rw [e, ← sumR_swap n m g, ← sumR_add]
  exact sumR_congr (fun i _ => e _)
theorem sumR_head (n : Nat) (g : Nat → Nat) : sumR (n + 1) g = g 0 + sumR n (fun i => g (i + 1)) := by
  unfold sumR
  rw [List.range_succ_eq_map, List.map_cons, List.sum_cons, List.map_map]
  rfl
theorem count_sum (a : Int) : ∀ l : List Int, l.countP (fun b => decide (b < a)) = sumR l.length (fun j => if l.getD j 0 < a then 1 else 0)
 | [] => rfl
 | b :: l => by
  rw [List.countP_cons, List.length_cons, sumR_head, count_sum a l, Nat.add_comm]
  congr 1
  show (if decide (b < a) = true then 1 else 0) = (if b < a then 1 else 0)
  by_cases h : b < a
  · rw [if_pos h, if_pos (decide_eq_true h)]
  · rw [if_neg h, if_neg (by simpa using h)]
theorem invs_sum : ∀ l : List Int, invs l = sumR l.length (fun i => sumR l.length (fun j => if i < j ∧ l.getD j 0 < l.getD i 0 then 1 else 0))
 | [] => rfl
 | a :: l => by
  rw [invs, List.length_cons, sumR_head, invs_sum l, count_sum]
  congr 1
  · rw [sumR_head]
    show _ = (if 0 < 0 ∧ _ then 1 else 0) + _
    rw [if_neg (by omega), Nat.zero_add]
    refine sumR_congr (fun j _ => ?_)
    show (if l.getD j 0 < a then 1 else 0) = (if 0 < j + 1 ∧ l.getD j 0 < a then 1 else 0)
    by_cases h : l.getD j 0 < a
    · rw [if_pos h, if_pos ⟨by omega, h⟩]
    · rw [if_neg h, if_neg (fun hh => h hh.2)]
  · refine sumR_congr (fun i _ => ?_)
    rw [sumR_head]
    show _ = (if i + 1 < 0 ∧ _ then 1 else 0) + _
    rw [if_neg (by omega), Nat.zero_add]
    refine sumR_congr (fun j _ => ?_)
    show (if i < j ∧ l.getD j 0 < l.getD i 0 then 1 else 0) = (if i + 1 < j + 1 ∧ l.getD j 0 < l.getD i 0 then 1 else 0)
    by_cases h : i < j
    · simp [h]
    · simp [h]
theorem invs_nx {n : Nat} {o : List Int} (h : OrdP n o) : invs o = sumR n (fun i => sumR n (fun j => if i < j ∧ nxO o j < nxO o i then 1 else 0)) := by
  rw [invs_sum, h.len]
  refine sumR_congr (fun i hi => sumR_congr (fun j hj => ?_))
  rw [(h.at hi).1, (h.at hj).1]
  by_cases c : i < j ∧ nxO o j < nxO o i
  · rw [if_pos c, if_pos ⟨c.1, by omega⟩]
  · rw [if_neg c, if_neg (fun hh => c ⟨hh.1, by omega⟩)]
theorem invs_back {n : Nat} {o : List Int} (h : OrdP n o) : invs (backL n o) = invs o := by
  rw [invs_nx (backL_ord h), invs_nx h]
  rw [← sumR_map h (fun x => sumR n (fun y => if x < y ∧ nxO (backL n o) y < nxO (backL n o) x then 1 else 0))]
  rw [sumR_swap n n (fun i j => if i < j ∧ nxO o j < nxO o i then 1 else 0)]
  refine sumR_congr (fun i hi => ?_)
  rw [← sumR_map h (fun y => if nxO o i < y ∧ nxO (backL n o) y < nxO (backL n o) (nxO o i) then 1 else 0)]
  refine sumR_congr (fun j hj => ?_)
  rw [backL_nx h hi, backL_nx h hj]
  by_cases c : nxO o i < nxO o j ∧ j < i
  · rw [if_pos c, if_pos ⟨c.2, c.1⟩]
  · rw [if_neg c, if_neg (fun hh => c ⟨hh.2, hh.1⟩)]
end Go.Proofs.Ytclmmnphmlmnmaa.X
end
section
/- The law's own rounds, the orders: each comes to true. -/
--! needs LBase LOrd LOrdP LInvs LInvB LCycA LPerm LFol LRounds LRankA LUnr LBoA LBoB LBoC LBoD LBoE LSameRow laws_FnBoatsFollow
namespace Go.Proofs.Ytclmmnphmlmnmaa.X
open Go.Proofs.Ytclmmnphmlmnmaa.Sq Go.RowKit Go.Proofs.YtclmmnphmlmnmaaW.PrintWords Go.Proofs.YtclmmnphmlmnmaaW.PrintLast Go.Proofs.YtclmmnphmlmnmaaW.PrintMore
attribute [local go_sem] max2_int min2_int max_two min_two max_three min_three max_four min_four   -- for this text's walks alone
set_option linter.unusedVariables false
set_option linter.unusedSimpArgs false
theorem cinvF_ok {l : List Int} (h : ordB l = true) : cinvF l = (((invs l : Nat) : Int), true) := if_pos h
theorem ordF_back {o : List Int} (ho : ordB o = true) : ordF (o.length : Int) ((code o : Nat) : Int) = (o, true) := by
  have h8 := ordB_len o ho
  have hP := OrdP.of_ordB ho
  unfold ordF
  rw [if_pos ⟨by omega, by omega, by omega, by rw [Int.toNat_natCast]; exact Int.ofNat_lt.2 (code_lt o)⟩, Int.toNat_natCast, Int.toNat_natCast, unr_code o (upL o.length) (upL_lt _) hP.perm]
section
variable {b i v : Int} {s : Bool} {n c w : Int} {nn : Bool} {m r : Int} {made : List Int} {ok : Bool}
theorem j2_ev {o : List Int} (ho : ordB o = true) (hJ : Ev (fun k => laws_FnBoatsFollow.j3 k b i v s n c w nn m r made ok) true) : Ev (fun k => laws_FnBoatsFollow.j2 k o ((rndN o : Nat) : Int) (backL o.length o) ((code o : Nat) : Int) b i v s n c w nn m r made ok ((rndN o : Nat) : Int)) true := by
  have h8 := ordB_len o ho
  have hP := OrdP.of_ordB ho
  have hB := backL_ord hP
  have hBo := ordB_of hB h8.1 h8.2
  have hU := ordB_of (upL_ord o.length) h8.1 h8.2
  have eF : folF o (backL o.length o) = (upL o.length, true) := by
    unfold folF
    rw [if_pos ⟨ho, hBo, hB.len.symm⟩, fol_back hP]
  have eH : cinvF (upL o.length) = (0, true) := by
    rw [cinvF_ok hU, (invs_home (upL_ord o.length)).2 rfl]
    rfl
  refine Ev.step (fun k => by rw [laws_FnBoatsFollow.j2]) ?_
  refine Ev.bind (Follow_impl o (backL o.length o) (by omega) (by rw [hB.len]; omega)) ?_
  rw [eF]
  refine Ev.bind (CountInverted_impl o (by omega)) (Ev.bind (CountInverted_impl (backL o.length o) (by rw [hB.len]; omega)) (Ev.bind (CountInverted_impl (upL o.length) (by rw [upL_len]; omega)) (Ev.bind (Order_impl (o.length : Int) ((code o : Nat) : Int)) ?_)))
  rw [cinvF_ok ho, cinvF_ok hBo, eH, ordF_back ho, invs_back hP]
  exact evPos rfl (evPos rfl (evPos rfl (evPos rfl (evPos rfl (evPos rfl (evPos rfl (evPos rfl (Ev.bind (kSame_self o (by omega)) (evPos rfl hJ)))))))))
theorem l0_ev {o : List Int} (ho : ordB o = true) (hJ : Ev (fun k => laws_FnBoatsFollow.j3 k b i v s n c w nn m r made ok) true) : ∀ (e j : Nat), j + 1 + e = rndN o → Ev (fun k => laws_FnBoatsFollow.l0 k o ((rndN o : Nat) : Int) (backL o.length o) ((code o : Nat) : Int) b i v s n c w nn m r made ok (powL o j) ((j + 1 : Nat) : Int)) true := by
  have h8 := ordB_len o ho
  have hP := OrdP.of_ordB ho
  obtain ⟨r1, r2, r3⟩ := rnd_facts hP h8.2
  intro e
  induction e with
  | zero =>
    intro j hj
    refine Ev.step (fun k => by rw [laws_FnBoatsFollow.l0]) ?_
    have hp := powL_ord hP j
    have hz : invs (powL o j) = 0 := (invs_home hp).2 ((r3 j).2 (by rw [show j + 1 = rndN o by omega]; exact Nat.dvd_refl _))
    refine Ev.bind (CountInverted_impl (powL o j) (by rw [hp.len]; omega)) ?_
    rw [cinvF_ok (ordB_of hp h8.1 h8.2), hz, show j + 1 = rndN o by omega]
    exact evPos rfl (evPos rfl (j2_ev ho hJ))
  | succ e ih =>
    intro j hj
    refine Ev.step (fun k => by rw [laws_FnBoatsFollow.l0]) ?_
    have hp := powL_ord hP j
    have hz : 0 < invs (powL o j) := by
      rcases Nat.eq_zero_or_pos (invs (powL o j)) with hz | hz
      · have := (r3 j).1 ((invs_home hp).1 hz)
        have := Nat.le_of_dvd (by omega) this
        omega
      · exact hz
    have hpo := ordB_of hp h8.1 h8.2
    refine Ev.bind (CountInverted_impl (powL o j) (by rw [hp.len]; omega)) ?_
    rw [cinvF_ok hpo]
    have eF : folF (powL o j) o = (powL o (j + 1), true) := by
      unfold folF
      rw [if_pos ⟨hpo, ho, hp.len⟩]
      rfl
    refine evPos rfl (evNeg (by show ¬ ((invs (powL o j) : Nat) : Int) = 0; omega) (Ev.bind (Follow_impl (powL o j) o (by rw [hp.len]; omega) (by omega)) ?_))
    rw [eF, i1b (j + 1) (by omega)]
    exact evPos rfl (evNeg (by omega) (ih (j + 1) (by omega)))
end
theorem boatsD_in {l : List Int} (P : Int → Bool) (h : l.all P = true) {x : Int} (hx : x ∈ l) : P x = true := List.all_eq_true.1 h x hx
theorem j0_ev {l1 : List Int} (hc : bytesOk l1) : Ev (fun k => laws_FnBoatsFollow.j0 k l1) true := by
  obtain ⟨o, ho9, hO⟩ := drawRounds_ok hc
  obtain ⟨b, i, hb, hi, hI⟩ := drawI_ok hc
  obtain ⟨n, c, hn, hcy, hC⟩ := drawC_ok hc
  obtain ⟨m, r, hm, hr, hR⟩ := drawO_ok hc
  have kI := chkI_all b hb i hi
  have kC := chkC_all n hn c hcy
  have kO := chkO_all m hm r hr
  rw [beq_iff_eq] at kO
  have hib : -10 ≤ i ∧ i ≤ 4611686018427387904 := by
    have := boatsD_in (fun x => decide (-10 ≤ x ∧ x ≤ 4611686018427387904)) (l := invD) (by decide) hi
    exact of_decide_eq_true this
  have hJ := j3_ev kI hib kC m r
  obtain ⟨fI1, fI2, _⟩ := chkI_facts kI
  obtain ⟨fC1, fC2, _⟩ := chkC_facts kC
  have hml : (ordF m r).1.length ≤ 8 := by
    by_cases h : (ordF m r).2 = true
    · exact (made_facts m r h).2.2
    · unfold ordF at h ⊢
      split
      · rename_i hh
        rw [if_pos hh] at h
        exact absurd rfl h
      · simp
  refine Ev.step (fun k => by rw [laws_FnBoatsFollow.j0]) ?_
  refine Ev.bind hO (Ev.bind (Rounds_impl o (by omega)) (Ev.bind (Rounds_spec o) (Ev.bind (Back_impl o (by omega)) (Ev.bind (Back_spec o) (Ev.bind (Rank_impl o (by omega)) (Ev.bind (Rank_spec o) (evBind0 hI ?_)))))))
  refine Ev.bind (evM (fun k => impl_CountWithInverted.mono _ _ k) 700 fI1) (Ev.bind (evM (fun k => spec_CountWithInverted.mono _ _ k) 700 fI2) (evBind0 hC ?_))
  refine Ev.bind (evM (fun k => impl_CountWithCycles.mono _ _ k) 300 fC1) (Ev.bind (evM (fun k => spec_CountWithCycles.mono _ _ k) 300 fC2) (evBind0 hR ?_))
  refine Ev.bind (Order_impl m r) (Ev.bind (evM (fun k => spec_OrderOfRank.mono _ _ k) 60 kO) ?_)
  have hbl : (backF o).1.length ≤ 9 := by
    unfold backF
    split
    · rename_i h1
      show (backL o.length o).length ≤ 9
      rw [(backL_ord (OrdP.of_ordB h1)).len]
      exact ho9
    · simp
  have e12 : (backF o).2 = ordB o := by unfold backF; split <;> simp_all
  have e13 : (rankF o).2 = ordB o := by unfold rankF; split <;> simp_all
  have e14 : (rndF o).2 = ordB o := by unfold rndF; split <;> simp_all
  refine evNeg (by simp) (evPos rfl (evNeg (by simp) (Ev.bind (kSame_self _ (by omega)) (evPos rfl (evNeg (by simp) (evPos rfl (evNeg (by rw [e12, e14]; simp) (evNeg (by rw [e13, e14]; simp) (evNeg (by simp) (evPos rfl (evNeg (by simp) (evPos rfl (evNeg (by simp) (Ev.bind (kSame_self _ (by omega)) (evPos rfl ?_)))))))))))))))
  rw [e14]
  cases h1 : ordB o with
  | false => exact evNeg (by simp) hJ
  | true =>
    have hP := OrdP.of_ordB h1
    have h8 := ordB_len o h1
    obtain ⟨r1, _, _⟩ := rnd_facts hP h8.2
    have e1 : rndF o = (((rndN o : Nat) : Int), true) := if_pos h1
    have e2 : backF o = (backL o.length o, true) := if_pos h1
    have e3 : rankF o = (((code o : Nat) : Int), true) := if_pos h1
    rw [e1, e2, e3]
    exact evPos rfl (l0_ev h1 hJ (rndN o - 1) 0 (by omega))
end Go.Proofs.Ytclmmnphmlmnmaa.X
end
section
/- Orders follow one another, back orders lead back, rounds come home, and orders are counted and told by rank. -/
--! needs LBoF
namespace Go.Proofs.Ytclmmnphmlmnmaa.Pure
open Go.RowKit Go.Proofs.Ytclmmnphmlmnmaa.X Go.Proofs.YtclmmnphmlmnmaaW.PrintWords Go.Proofs.YtclmmnphmlmnmaaW.PrintLast
theorem big_f (l0 l1 : List Int) (h0 : l0.length ≤ 9000000000000000000) (h1 : l1.length ≤ 9000000000000000000) : ∃ b, laws_big.f l0 l1 = some b ∧ (b = false → l0.length ≤ 1048576 ∧ l1.length ≤ 1048576) := by
  unfold laws_big.f
  by_cases c : (l0.length : Int) > 1048576
  · rw [if_pos c]
    exact ⟨_, rfl, fun h => by cases h⟩
  · rw [if_neg c]
    refine ⟨_, rfl, fun h => ?_⟩
    have h2 := of_decide_eq_false h
    rw [w64 (by omega) (by omega)] at h2
    omega
theorem FnBoatsFollow : laws_FnBoatsFollow.PureQ := by
  rintro l0 l1 ⟨hl0, hb0⟩ hm0 ⟨hl1, hb1⟩ hm1
  refine Ev.rounds ?_
  unfold laws_FnBoatsFollow.f
  obtain ⟨b, hb, hsz⟩ := big_f l0 l1 (by unfold maxLen at hl0; omega) (by unfold maxLen at hl1; omega)
  refine evBind0 hb ?_
  cases b with
  | true => exact evPos rfl (evSome rfl)
  | false =>
    obtain ⟨s0, s1⟩ := hsz rfl
    have ok0 : bytesOk l0 := bytesOk_of hb0 s0
    have ok1 : bytesOk l1 := bytesOk_of hb1 s1
    have hJ := j0_ev ok1
    obtain ⟨A, B, hA, hB, hD⟩ := drawFollow_ok ok0
    refine evNeg (by simp) (Ev.bind hD (Ev.bind (Follow_impl A B (by omega) (by omega)) (Ev.bind (Follow_spec A B) (evNeg (by simp) ?_))))
    by_cases h : ordB A = true ∧ ordB B = true ∧ A.length = B.length
    · have hPA := OrdP.of_ordB h.1
      have hPB : OrdP A.length B := by
        have := OrdP.of_ordB h.2.1
        rw [← h.2.2] at this
        exact this
      have h8 := ordB_len A h.1
      have eF : folF A B = (folL A B, true) := if_pos h
      have hPF := folL_ord hPA hPB
      have hoF := ordB_of hPF h8.1 h8.2
      have bA := backL_ord hPA
      have bB := backL_ord hPB
      have e1 : backF A = (backL A.length A, true) := if_pos h.1
      have e2 : backF B = (backL A.length B, true) := by rw [show backF B = (backL B.length B, true) from if_pos h.2.1, h.2.2]
      have e3 : backF (folL A B) = (backL A.length (folL A B), true) := by rw [show backF (folL A B) = (backL (folL A B).length (folL A B), true) from if_pos hoF, hPF.len]
      have e4 : folF (backL A.length B) (backL A.length A) = (backL A.length (folL A B), true) := by
        unfold folF
        rw [if_pos ⟨ordB_of bB h8.1 h8.2, ordB_of bA h8.1 h8.2, bB.len.trans bA.len.symm⟩, ← back_fol hPA hPB]
      rw [eF]
      refine Ev.bind (kSame_self (folL A B) (by rw [hPF.len]; omega)) (evPos rfl (evPos rfl ?_))
      refine Ev.bind (Back_impl A (by omega)) (Ev.bind (Back_impl B (by omega)) (Ev.bind (Back_impl (folL A B) (by rw [hPF.len]; omega)) ?_))
      rw [e1, e2, e3]
      refine Ev.bind (Follow_impl (backL A.length B) (backL A.length A) (by rw [bB.len]; omega) (by rw [bA.len]; omega)) ?_
      rw [e4]
      have bF := backL_ord hPF
      refine evPos rfl (evPos rfl (evPos rfl (evPos rfl (Ev.bind (kSame_self _ (by dsimp only; rw [bF.len]; omega)) (evPos rfl (evBind0 (IsOrder_eq _ (by dsimp only; rw [hPF.len]; omega)) ?_))))))
      rw [hoF]
      exact evPos rfl hJ
    · have eF : folF A B = ([], false) := if_neg h
      rw [eF]
      exact Ev.bind (kSame_self [] (by simp)) (evPos rfl (evNeg (by simp) hJ))
end Go.Proofs.Ytclmmnphmlmnmaa.Pure
end
section
/- How an argument of any plain type is opened: what the row says of it gives what the walks read. -/
set_option linter.unusedVariables false
namespace Go.Proofs.Ytclmmnphmlmnmaa.Open
open Go.ChangeShapes Go.WideShapes Go.Deep Go.RowKit Go.Proofs.YtclmmnphmlmnmaaW.PrintWords
/-- Whatever reads at type t is a value of the kind d, and meets wf. -/
structure Opens {α : Type} (P : Program) (t : TypeId) (d : Kd α) (wf : α → Prop) : Prop where
  intro ::
  size : P.cellsOf t = d.sz
  all : ∀ (H : Type) (enc : TypeId × Value → H) (w : World) (base : Nat) (spare : Nat → Bool) (held : Bool) (fuel : Nat) (cs : List Value) (x : DataW H × List MemPlace),
    DataW.trod enc P w base spare held fuel t cs = some x → ∃ a : α, d.K w a cs ∧ wf a
theorem opens_int {P : Program} {t : TypeId} {k : IntKind} (ht : P.underlying t = some (.int k)) (hc : P.cellsOf t = 1) : Opens P t (Kd.int k) (fun n => (Lit.int k n).wf = true) := by
  refine ⟨hc, fun H enc w base spare held fuel cs x h => ?_⟩
  obtain ⟨n, rfl, _, hw⟩ := DataW.trod_int ht h
  exact ⟨n, rfl, hw⟩
theorem choose_list {α : Type} {Q : Nat → α → Prop} : ∀ (n : Nat), (∀ i, i < n → ∃ a, Q i a) → ∃ l : List α, l.length = n ∧ ∀ i a, l[i]? = some a → Q i a
  | 0, _ => ⟨[], rfl, fun i a h => by simp at h⟩
  | n + 1, h => by
    obtain ⟨l, hl, hq⟩ := choose_list n (fun i hi => h i (by omega))
    obtain ⟨a, ha⟩ := h n (by omega)
    refine ⟨l ++ [a], by simp [hl], fun i b hb => ?_⟩
    by_cases hi : i < l.length
    · rw [List.getElem?_append_left hi] at hb
      exact hq i b hb
    · rw [List.getElem?_append_right (by omega)] at hb
      by_cases e : i - l.length = 0
      · rw [e] at hb
        simp at hb
        subst hb
        have : i = n := by omega
        rw [this]
        exact ha
      · rw [List.getElem?_singleton, if_neg e] at hb
        cases hb
theorem cells?_at {w : World} {base : Nat} {a : Addr} {n : Nat} {cs : List Value} (h : w.cells? base a n = some cs) : cs.length = n ∧ ∀ i u, cs[i]? = some u → w.cell? (a.add i) = some u := by
  obtain ⟨_, hl, hat⟩ := World.cells?_some h
  refine ⟨hl, fun i u hi => ?_⟩
  have : i < n := by rw [← hl]; exact (List.getElem?_eq_some_iff.1 hi).1
  rw [hat i this]
  exact hi
theorem opens_slice {α : Type} {P : Program} {t e : TypeId} {d : Kd α} {wf : α → Prop} (ht : P.underlying t = some (.slice e)) (hc : P.cellsOf t = 1) (he : Opens P e d wf) : Opens P t (Kd.slice e d) (fun l => l.length ≤ maxLen ∧ ∀ x ∈ l, wf x) := by
  refine ⟨hc, fun H enc w base spare held fuel cs x h => ?_⟩
  rcases open_slice ht h with ⟨rfl, _⟩ | ⟨a, len, cap, m, n, D, Pl, rfl, _, hl, hm, hmm, _, hi⟩
  · exact ⟨[], ⟨none, 0, rfl, by simp, Kd.C_nil d w⟩, by simp, by simp⟩
  · have hlm : len ≤ m := by rw [hmm]; split <;> omega
    obtain ⟨l, hll, hq⟩ := choose_list (Q := fun i (b : α) => ∃ c, c.length = d.sz ∧ d.K w b c ∧ wf b ∧ ∀ j u, c[j]? = some u → w.cell? (a.add (i * d.sz + j)) = some u) len (fun i hil => by
      obtain ⟨cs', h1, h2⟩ := hi i (by omega)
      obtain ⟨hl1, hat⟩ := cells?_at h1
      obtain ⟨b, hK, hwf⟩ := he.2 _ _ _ _ _ _ _ _ _ h2
      refine ⟨b, cs', by rw [hl1, he.1], hK, hwf, fun j u hj => ?_⟩
      have := hat j u hj
      rw [Go.Deep.add_add, he.1] at this
      exact this)
    refine ⟨l, ⟨some a, cap, by rw [hll], by omega, ⟨rfl, by rw [hll]; unfold maxLen at hm; omega, fun _ => ⟨a, rfl, fun j p hp => ?_⟩⟩⟩, by rw [hll]; omega, fun x hx => ?_⟩
    · obtain ⟨c, h1, h2, _, h4⟩ := hq j p hp
      exact ⟨c, h1, h2, h4⟩
    · obtain ⟨i, hi⟩ := List.getElem?_of_mem hx
      obtain ⟨c, _, _, h3, _⟩ := hq i x hi
      exact h3
/-- The fields from place o on. -/
structure OpensFs {α : Type} (P : Program) (fs : List Field) (o : Nat) (d : Kd α) (wf : α → Prop) : Prop where
  intro ::
  all : ∀ (H : Type) (enc : TypeId × Value → H) (w : World) (base : Nat) (spare : Nat → Bool) (held : Bool) (n : Nat) (cs : List Value), cs.length = o + d.sz →
    (∀ (i : Nat) (f : Field), fs[i]? = some f → ∃ y, DataW.trod enc P w base spare held n f.type ((cs.drop f.offset).take (P.cellsOf f.type)) = some y) → ∃ a : α, d.K w a (cs.drop o) ∧ wf a
/-- A parameter. -/
theorem opens_arg {H α : Type} {enc : TypeId × Value → H} {P : Program} {W : World} {base : Nat} {spare : Nat → Bool} {held : Bool} {t : TypeId} {v : Value} {x : DataW H} {ps : List MemPlace} {d : Kd α} {wf : α → Prop} (ho : Opens P t d wf) (h : DataW.Trod enc P W base spare held t v x ps) : ∃ a : α, d.K W a v.cells.toList ∧ wf a := by
  obtain ⟨fuel, hf⟩ := h
  exact ho.2 _ _ _ _ _ _ _ _ _ hf
theorem trod_lt_arg {H : Type} {enc : TypeId × Value → H} {P : Program} {W : World} {base : Nat} {spare : Nat → Bool} {held : Bool} {t : TypeId} {v : Value} {x : DataW H} {ps : List MemPlace} (h : DataW.Trod enc P W base spare held t v x ps) : ∀ y ∈ ps, y.block < W.heap.size := by
  obtain ⟨m, hm⟩ := h
  exact DataW.trod_lt m _ _ _ hm
end Go.Proofs.Ytclmmnphmlmnmaa.Open
end
