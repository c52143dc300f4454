import Derived.Test.YtfegbmlcbdjcgaaDoorP2
import Derived.Test.YtfegbmlcbdjcgaaDoorP6
import Derived.Test.YtfegbmlcbdjcgaaDoorP8
import Derived.Test.YtfegbmlcbdjcgaaDoorP11
import Derived.Test.YtfegbmlcbdjcgaaDoorP12
import Derived.Test.YtfegbmlcbdjcgaaDoorP13
import Derived.ChangeArms
import Derived.Deep.Slices
import Derived.WideShapes
import Derived.Carry
section
/- The program's FewestTurns and the reference's come to the same, at every input. -/
namespace Go.Proofs.YtfegbmlcbdjcgaaDoor.Pure
open Go.RowKit Go.Proofs.YtfegbmlcbdjcgaaDoor.X Go.Proofs.YtfegbmlcbdjcgaaDoorW.PrintWords Go.Proofs.YtfegbmlcbdjcgaaDoorW.PrintLast
theorem upL_succ (n : Nat) : upL (n + 1) = upL n ++ [(n : Int) + 1] := by
  unfold upL
  rw [List.range_succ, List.map_append]
  rfl
theorem right_l0 (n : Nat) (hn : n ≤ 100) (e : Nat) : ∀ i : Nat, i + e = n → Ev (fun k => impl_right.l0 k (n : Int) (upL i) ((i + 1 : Nat) : Int)) (upL n) := by
  induction e with
  | zero =>
    intro i hi
    refine Ev.step (fun k => by rw [impl_right.l0]) ?_
    obtain rfl : i = n := by omega
    exact evNeg (by omega) (evSome rfl)
  | succ e ih =>
    intro i hi
    refine Ev.step (fun k => by rw [impl_right.l0]) ?_
    refine evPos (by omega) (evPos (by rw [upL_len]; omega) ?_)
    rw [i1o (i + 1) (by omega), show (((i + 1 : Nat) : Int)) = (i : Int) + 1 by omega, ← upL_succ]
    exact ih (i + 1) (by omega)
theorem right_ev (n : Nat) (hn : n ≤ 100) : Ev (fun k => impl_right.f k (n : Int)) (upL n) := by
  unfold impl_right.f
  exact right_l0 n hn n 0 (by omega)
theorem join_none : ∀ L : List (List UInt8), Lib.join L [] = L.flatten
 | [] => rfl
 | x :: r => by
  rw [Lib.join_cons]
  unfold Lib.joinTail
  simp
theorem key_bytes : ∀ x : List Int, (∀ y ∈ x, 0 ≤ y ∧ y ≤ 9) → (decs (x.map Int.toNat)).flatten = keyL x
 | [], _ => rfl
 | a :: x, h => by
  have h1 := h a (List.mem_cons_self ..)
  have h2 := key_bytes x (fun y hy => h y (List.mem_cons_of_mem _ hy))
  unfold decs keyL at *
  rw [List.map_cons, List.map_cons, List.flatten_cons, h2, Lib.decDigits_one (by omega), List.map_cons]
  rfl
theorem joined_key (x : List Int) (hl : x.length ≤ 100) (h : ∀ y ∈ x, 0 ≤ y ∧ y ≤ 9) : Ev (fun k => impl_joined.f k x ⟨#[]⟩) (keyB x) := by
  have hx : x = (x.map Int.toNat).map (fun (n : Nat) => (n : Int)) := by
    rw [List.map_map]
    have : ∀ (z : List Int), (∀ y ∈ z, 0 ≤ y) → z = z.map ((fun (n : Nat) => (n : Int)) ∘ Int.toNat) := by
      intro z hz
      induction z with
      | nil => rfl
      | cons a z ih =>
        have ha := hz a (List.mem_cons_self ..)
        rw [List.map_cons, ← ih (fun y hy => hz y (List.mem_cons_of_mem _ hy))]
        congr 1
        show a = ((a.toNat : Nat) : Int)
        omega
    exact this x (fun y hy => (h y hy).1)
  have hj := joined_ev (x.map Int.toNat) (by rw [List.length_map]; omega) (fun y hy => by
    obtain ⟨z, hz, rfl⟩ := List.mem_map.1 hy
    have := h z hz
    omega) ⟨#[]⟩ (by show 0 ≤ 1000; omega) x hx
  refine evEq hj ?_
  have e0 : (⟨#[]⟩ : ByteArray).data.toList = [] := rfl
  rw [e0, join_none, key_bytes x h]
  rfl
theorem all_keys : ∀ L : List (List Int × Nat), (∀ p ∈ L, Ev (fun k => impl_joined.f k p.1 ⟨#[]⟩) (keyB p.1)) → ∃ K, ∀ k, K ≤ k → ∀ p ∈ L, impl_joined.f k p.1 ⟨#[]⟩ = some (keyB p.1)
 | [], _ => ⟨0, fun _ _ p hp => by cases hp⟩
 | q :: L, h => by
  obtain ⟨K1, h1⟩ := h q (List.mem_cons_self ..)
  obtain ⟨K2, h2⟩ := all_keys L (fun p hp => h p (List.mem_cons_of_mem _ hp))
  refine ⟨K1 + K2, fun k hk p hp => ?_⟩
  rcases List.mem_cons.1 hp with rfl | hp
  · exact h1 k (by omega)
  · exact h2 k (by omega) p hp
theorem ftOk_ev (o : List Int) (ho : OrdP o.length o) (hn : o.length ≤ 7) (hn1 : 1 ≤ o.length) : ∃ K, ∀ k, K ≤ k → FtOk k o (upL o.length) := by
  have hg : GoodF o.length (finF o.length o) := stF_good ho _
  have hd : ∀ p ∈ finF o.length o, ∀ y ∈ p.1, 0 ≤ y ∧ y ≤ 9 := fun p hp y hy => by
    have := (hg.ord p hp).range y hy
    omega
  obtain ⟨K, hK⟩ := all_keys (finF o.length o) (fun p hp => joined_key p.1 (by have := (hg.ord p hp).len; omega) (hd p hp))
  refine ⟨K, fun k hk => ⟨hn, stF_end ho (by omega), fun p hp => ⟨(hg.ord p hp).len, hd p hp, hK k hk p hp, stF_le _ _ _ p hp⟩, fun p hp m h2 hm => ?_, ?_, hg.nodup, hn1⟩⟩
  · exact (hasK_iff _ _).1 (fin_closed ho (by omega) p.1 ((hasK_iff _ _).2 ⟨p.2, hp⟩) m h2 hm)
  · exact (hasK_iff _ _).1 (fin_home ho (by omega))
theorem impl_turns (o : List Int) (hb : ordB o = true) (hn : o.length ≤ 7) : Ev (fun k => impl_FewestTurns.f k o) (((lookF (finF o.length o) (upL o.length) : Nat) : Int), true) := by
  have ho := OrdP.of_ordB hb
  have hlen := ordB_len o hb
  obtain ⟨K1, h1⟩ := right_ev o.length (by omega)
  obtain ⟨K2, h2⟩ := ftOk_ev o ho hn hlen.1
  refine ⟨K1 + K2, fun k hk => ?_⟩
  have h3 : impl_right.f k (o.length : Int) = some (upL o.length) := h1 k (by omega)
  have h4 := h2 k (by omega)
  unfold impl_FewestTurns.f
  rw [IsOrder_eq o (by omega), hb]
  simp only [Option.bind_some]
  rw [if_pos trivial, if_neg (by omega), h3]
  simp only [Option.bind_some]
  rw [if_pos h4]
theorem turns_both (l : List Int) (hl : l.length ≤ 1048576) : ∃ s : Int × Bool, Ev (fun k => spec_FewestTurns.f k l) s ∧ Ev (fun k => impl_FewestTurns.f k l) s := by
  have hG := ptGood_ev l
  cases hb : ordB l with
  | false =>
    rw [hb] at hG
    refine ⟨(0, false), ?_, ?_⟩
    · unfold spec_FewestTurns.f
      refine Ev.bind hG (evNeg (by simp) (Ev.step (fun k => by rw [spec_FewestTurns.j0]) ?_))
      exact evPos rfl (evSome rfl)
    · refine ⟨0, fun k _ => ?_⟩
      unfold impl_FewestTurns.f
      rw [IsOrder_eq l (by omega), hb]
      rfl
  | true =>
    rw [hb] at hG
    have hlen := ordB_len l hb
    by_cases h7 : 7 < l.length
    · refine ⟨(0, false), ?_, ?_⟩
      · unfold spec_FewestTurns.f
        refine Ev.bind hG (evPos rfl (Ev.step (fun k => by rw [spec_FewestTurns.j0]) ?_))
        exact evPos (decide_eq_true (by omega)) (evSome rfl)
      · refine ⟨0, fun k _ => ?_⟩
        unfold impl_FewestTurns.f
        rw [IsOrder_eq l (by omega), hb]
        simp only [Option.bind_some]
        rw [if_pos trivial, if_pos h7]
    · refine ⟨_, ?_, impl_turns l hb (by omega)⟩
      unfold spec_FewestTurns.f
      refine Ev.bind hG (evPos rfl (Ev.step (fun k => by rw [spec_FewestTurns.j0]) ?_))
      exact evNeg (by simp; omega) (spec_turns l (OrdP.of_ordB hb) (by omega) hlen.1)
theorem FnExactFewestTurns : laws_FnExactFewestTurns.PureQ := by
  intro l _ _
  refine Ev.rounds ?_
  unfold laws_FnExactFewestTurns.f
  by_cases h : l.length > 1048576
  · exact evPos (by omega) (evSome rfl)
  refine evNeg (by omega) ?_
  have hP := toIntS_ev l (by omega)
  obtain ⟨s, hS, hI⟩ := turns_both l (by omega)
  have hE := eqIntS_self l (by omega)
  refine Ev.bind hP (Ev.bind hS (Ev.bind hP (Ev.bind hI (evPos rfl ?_))))
  refine Ev.step (fun k => by rw [laws_FnExactFewestTurns.j0]) ?_
  exact evNeg (by simp) (Ev.bind hP (Ev.bind hE (evPos rfl (evSome rfl))))
end Go.Proofs.YtfegbmlcbdjcgaaDoor.Pure
end
section
/- How an argument of any plain type is opened: what the row says of it gives what the walks read. -/
set_option linter.unusedVariables false
namespace Go.Proofs.YtfegbmlcbdjcgaaDoor.Open
open Go.ChangeShapes Go.WideShapes Go.Deep Go.RowKit Go.Proofs.YtfegbmlcbdjcgaaDoorW.PrintWords
/-- Whatever reads at type t is a value of the kind d, and meets wf. -/
structure Opens {α : Type} (P : Program) (t : TypeId) (d : Kd α) (wf : α → Prop) : Prop where
  intro ::
  size : P.cellsOf t = d.sz
  all : ∀ (H : Type) (enc : TypeId × Value → H) (w : World) (base : Nat) (spare : Nat → Bool) (held : Bool) (fuel : Nat) (cs : List Value) (x : DataW H × List MemPlace),
    DataW.trod enc P w base spare held fuel t cs = some x → ∃ a : α, d.K w a cs ∧ wf a
theorem opens_int {P : Program} {t : TypeId} {k : IntKind} (ht : P.underlying t = some (.int k)) (hc : P.cellsOf t = 1) : Opens P t (Kd.int k) (fun n => (Lit.int k n).wf = true) := by
  refine ⟨hc, fun H enc w base spare held fuel cs x h => ?_⟩
  obtain ⟨n, rfl, _, hw⟩ := DataW.trod_int ht h
  exact ⟨n, rfl, hw⟩
theorem choose_list {α : Type} {Q : Nat → α → Prop} : ∀ (n : Nat), (∀ i, i < n → ∃ a, Q i a) → ∃ l : List α, l.length = n ∧ ∀ i a, l[i]? = some a → Q i a
  | 0, _ => ⟨[], rfl, fun i a h => by simp at h⟩
  | n + 1, h => by
    obtain ⟨l, hl, hq⟩ := choose_list n (fun i hi => h i (by omega))
    obtain ⟨a, ha⟩ := h n (by omega)
    refine ⟨l ++ [a], by simp [hl], fun i b hb => ?_⟩
    by_cases hi : i < l.length
    · rw [List.getElem?_append_left hi] at hb
      exact hq i b hb
    · rw [List.getElem?_append_right (by omega)] at hb
      by_cases e : i - l.length = 0
      · rw [e] at hb
        simp at hb
        subst hb
        have : i = n := by omega
        rw [this]
        exact ha
      · rw [List.getElem?_singleton, if_neg e] at hb
        cases hb
theorem cells?_at {w : World} {base : Nat} {a : Addr} {n : Nat} {cs : List Value} (h : w.cells? base a n = some cs) : cs.length = n ∧ ∀ i u, cs[i]? = some u → w.cell? (a.add i) = some u := by
  obtain ⟨_, hl, hat⟩ := World.cells?_some h
  refine ⟨hl, fun i u hi => ?_⟩
  have : i < n := by rw [← hl]; exact (List.getElem?_eq_some_iff.1 hi).1
  rw [hat i this]
  exact hi
theorem opens_slice {α : Type} {P : Program} {t e : TypeId} {d : Kd α} {wf : α → Prop} (ht : P.underlying t = some (.slice e)) (hc : P.cellsOf t = 1) (he : Opens P e d wf) : Opens P t (Kd.slice e d) (fun l => l.length ≤ maxLen ∧ ∀ x ∈ l, wf x) := by
  refine ⟨hc, fun H enc w base spare held fuel cs x h => ?_⟩
  rcases open_slice ht h with ⟨rfl, _⟩ | ⟨a, len, cap, m, n, D, Pl, rfl, _, hl, hm, hmm, _, hi⟩
  · exact ⟨[], ⟨none, 0, rfl, by simp, Kd.C_nil d w⟩, by simp, by simp⟩
  · have hlm : len ≤ m := by rw [hmm]; split <;> omega
    obtain ⟨l, hll, hq⟩ := choose_list (Q := fun i (b : α) => ∃ c, c.length = d.sz ∧ d.K w b c ∧ wf b ∧ ∀ j u, c[j]? = some u → w.cell? (a.add (i * d.sz + j)) = some u) len (fun i hil => by
      obtain ⟨cs', h1, h2⟩ := hi i (by omega)
      obtain ⟨hl1, hat⟩ := cells?_at h1
      obtain ⟨b, hK, hwf⟩ := he.2 _ _ _ _ _ _ _ _ _ h2
      refine ⟨b, cs', by rw [hl1, he.1], hK, hwf, fun j u hj => ?_⟩
      have := hat j u hj
      rw [Go.Deep.add_add, he.1] at this
      exact this)
    refine ⟨l, ⟨some a, cap, by rw [hll], by omega, ⟨rfl, by rw [hll]; unfold maxLen at hm; omega, fun _ => ⟨a, rfl, fun j p hp => ?_⟩⟩⟩, by rw [hll]; omega, fun x hx => ?_⟩
    · obtain ⟨c, h1, h2, _, h4⟩ := hq j p hp
      exact ⟨c, h1, h2, h4⟩
    · obtain ⟨i, hi⟩ := List.getElem?_of_mem hx
      obtain ⟨c, _, _, h3, _⟩ := hq i x hi
      exact h3
/-- The fields from place o on. -/
structure OpensFs {α : Type} (P : Program) (fs : List Field) (o : Nat) (d : Kd α) (wf : α → Prop) : Prop where
  intro ::
  all : ∀ (H : Type) (enc : TypeId × Value → H) (w : World) (base : Nat) (spare : Nat → Bool) (held : Bool) (n : Nat) (cs : List Value), cs.length = o + d.sz →
    (∀ (i : Nat) (f : Field), fs[i]? = some f → ∃ y, DataW.trod enc P w base spare held n f.type ((cs.drop f.offset).take (P.cellsOf f.type)) = some y) → ∃ a : α, d.K w a (cs.drop o) ∧ wf a
/-- A parameter. -/
theorem opens_arg {H α : Type} {enc : TypeId × Value → H} {P : Program} {W : World} {base : Nat} {spare : Nat → Bool} {held : Bool} {t : TypeId} {v : Value} {x : DataW H} {ps : List MemPlace} {d : Kd α} {wf : α → Prop} (ho : Opens P t d wf) (h : DataW.Trod enc P W base spare held t v x ps) : ∃ a : α, d.K W a v.cells.toList ∧ wf a := by
  obtain ⟨fuel, hf⟩ := h
  exact ho.2 _ _ _ _ _ _ _ _ _ hf
theorem trod_lt_arg {H : Type} {enc : TypeId × Value → H} {P : Program} {W : World} {base : Nat} {spare : Nat → Bool} {held : Bool} {t : TypeId} {v : Value} {x : DataW H} {ps : List MemPlace} (h : DataW.Trod enc P W base spare held t v x ps) : ∀ y ∈ ps, y.block < W.heap.size := by
  obtain ⟨m, hm⟩ := h
  exact DataW.trod_lt m _ _ _ hm
end Go.Proofs.YtfegbmlcbdjcgaaDoor.Open
end
