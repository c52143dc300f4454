/- How an argument of any plain type is opened: what the row says of it gives what the walks read. -/
import Derived.ChangeArms
import Derived.Deep.Slices
import Derived.WideShapes
import Derived.Carry
import Derived.Test.YtfegbmlcbdjcgaaWWords
set_option linter.unusedVariables false
namespace Go.Proofs.Ytfegbmlcbdjcgaa.Open
open Go.ChangeShapes Go.WideShapes Go.Deep Go.RowKit Go.Proofs.YtfegbmlcbdjcgaaW.PrintWords

/-- Whatever reads at type t is a value of the kind d, and meets wf. -/
structure Opens {α : Type} (P : Program) (t : TypeId) (d : Kd α) (wf : α → Prop) : Prop where
  intro ::
  size : P.cellsOf t = d.sz
  all : ∀ (H : Type) (enc : TypeId × Value → H) (w : World) (base : Nat) (spare : Nat → Bool) (held : Bool) (fuel : Nat) (cs : List Value) (x : DataW H × List MemPlace),
    DataW.trod enc P w base spare held fuel t cs = some x → ∃ a : α, d.K w a cs ∧ wf a

theorem opens_int {P : Program} {t : TypeId} {k : IntKind} (ht : P.underlying t = some (.int k)) (hc : P.cellsOf t = 1) : Opens P t (Kd.int k) (fun n => (Lit.int k n).wf = true) := by
  refine ⟨hc, fun H enc w base spare held fuel cs x h => ?_⟩
  obtain ⟨n, rfl, _, hw⟩ := DataW.trod_int ht h
  exact ⟨n, rfl, hw⟩
theorem opens_bool {P : Program} {t : TypeId} (ht : P.underlying t = some .bool) (hc : P.cellsOf t = 1) : Opens P t Kd.bool (fun _ => True) := by
  refine ⟨hc, fun H enc w base spare held fuel cs x h => ?_⟩
  obtain ⟨n, rfl, _⟩ := DataW.trod_bool ht h
  exact ⟨n, rfl, trivial⟩
theorem opens_string {P : Program} {t : TypeId} (ht : P.underlying t = some .string) (hc : P.cellsOf t = 1) : Opens P t Kd.string (fun s => s.size ≤ maxLen) := by
  refine ⟨hc, fun H enc w base spare held fuel cs x h => ?_⟩
  obtain ⟨n, rfl, _, hw⟩ := DataW.trod_string ht h
  exact ⟨n, rfl, hw⟩
theorem choose_list {α : Type} {Q : Nat → α → Prop} : ∀ (n : Nat), (∀ i, i < n → ∃ a, Q i a) → ∃ l : List α, l.length = n ∧ ∀ i a, l[i]? = some a → Q i a
  | 0, _ => ⟨[], rfl, fun i a h => by simp at h⟩
  | n + 1, h => by
    obtain ⟨l, hl, hq⟩ := choose_list n (fun i hi => h i (by omega))
    obtain ⟨a, ha⟩ := h n (by omega)
    refine ⟨l ++ [a], by simp [hl], fun i b hb => ?_⟩
    by_cases hi : i < l.length
    · rw [List.getElem?_append_left hi] at hb
      exact hq i b hb
    · rw [List.getElem?_append_right (by omega)] at hb
      by_cases e : i - l.length = 0
      · rw [e] at hb
        simp at hb
        subst hb
        have : i = n := by omega
        rw [this]
        exact ha
      · rw [List.getElem?_singleton, if_neg e] at hb
        cases hb
theorem cells?_at {w : World} {base : Nat} {a : Addr} {n : Nat} {cs : List Value} (h : w.cells? base a n = some cs) : cs.length = n ∧ ∀ i u, cs[i]? = some u → w.cell? (a.add i) = some u := by
  obtain ⟨_, hl, hat⟩ := World.cells?_some h
  refine ⟨hl, fun i u hi => ?_⟩
  have : i < n := by rw [← hl]; exact (List.getElem?_eq_some_iff.1 hi).1
  rw [hat i this]
  exact hi
theorem opens_slice {α : Type} {P : Program} {t e : TypeId} {d : Kd α} {wf : α → Prop} (ht : P.underlying t = some (.slice e)) (hc : P.cellsOf t = 1) (he : Opens P e d wf) : Opens P t (Kd.slice e d) (fun l => l.length ≤ maxLen ∧ ∀ x ∈ l, wf x) := by
  refine ⟨hc, fun H enc w base spare held fuel cs x h => ?_⟩
  rcases open_slice ht h with ⟨rfl, _⟩ | ⟨a, len, cap, m, n, D, Pl, rfl, _, hl, hm, hmm, _, hi⟩
  · exact ⟨[], ⟨none, 0, rfl, by simp, Kd.C_nil d w⟩, by simp, by simp⟩
  · have hlm : len ≤ m := by rw [hmm]; split <;> omega
    obtain ⟨l, hll, hq⟩ := choose_list (Q := fun i (b : α) => ∃ c, c.length = d.sz ∧ d.K w b c ∧ wf b ∧ ∀ j u, c[j]? = some u → w.cell? (a.add (i * d.sz + j)) = some u) len (fun i hil => by
      obtain ⟨cs', h1, h2⟩ := hi i (by omega)
      obtain ⟨hl1, hat⟩ := cells?_at h1
      obtain ⟨b, hK, hwf⟩ := he.2 _ _ _ _ _ _ _ _ _ h2
      refine ⟨b, cs', by rw [hl1, he.1], hK, hwf, fun j u hj => ?_⟩
      have := hat j u hj
      rw [Go.Deep.add_add, he.1] at this
      exact this)
    refine ⟨l, ⟨some a, cap, by rw [hll], by omega, ⟨rfl, by rw [hll]; unfold maxLen at hm; omega, fun _ => ⟨a, rfl, fun j p hp => ?_⟩⟩⟩, by rw [hll]; omega, fun x hx => ?_⟩
    · obtain ⟨c, h1, h2, _, h4⟩ := hq j p hp
      exact ⟨c, h1, h2, h4⟩
    · obtain ⟨i, hi⟩ := List.getElem?_of_mem hx
      obtain ⟨c, _, _, h3, _⟩ := hq i x hi
      exact h3

/-- The fields from place o on. -/
structure OpensFs {α : Type} (P : Program) (fs : List Field) (o : Nat) (d : Kd α) (wf : α → Prop) : Prop where
  intro ::
  all : ∀ (H : Type) (enc : TypeId × Value → H) (w : World) (base : Nat) (spare : Nat → Bool) (held : Bool) (n : Nat) (cs : List Value), cs.length = o + d.sz →
    (∀ (i : Nat) (f : Field), fs[i]? = some f → ∃ y, DataW.trod enc P w base spare held n f.type ((cs.drop f.offset).take (P.cellsOf f.type)) = some y) → ∃ a : α, d.K w a (cs.drop o) ∧ wf a
theorem opens_last {α : Type} {P : Program} {f : Field} {o : Nat} {d : Kd α} {wf : α → Prop} (h : Opens P f.type d wf) (hf : f.offset = o) : OpensFs P [f] o d wf := by
  refine ⟨fun H enc w base spare held n cs hl hi => ?_⟩
  obtain ⟨y, hy⟩ := hi 0 f rfl
  rw [hf, h.1, List.take_of_length_le (by rw [List.length_drop]; omega)] at hy
  exact h.2 _ _ _ _ _ _ _ _ _ hy
theorem opens_cons {α β : Type} {P : Program} {f : Field} {fs : List Field} {o : Nat} {d : Kd α} {wf : α → Prop} {d' : Kd β} {wf' : β → Prop} (h : Opens P f.type d wf) (hf : f.offset = o) (hr : OpensFs P fs (o + d.sz) d' wf') : OpensFs P (f :: fs) o (Kd.pair d d') (fun x => wf x.1 ∧ wf' x.2) := by
  refine ⟨fun H enc w base spare held n cs hl hi => ?_⟩
  have hl' : cs.length = o + d.sz + d'.sz := by rw [hl]; show o + (d.sz + d'.sz) = _; omega
  obtain ⟨y, hy⟩ := hi 0 f rfl
  rw [hf, h.1] at hy
  obtain ⟨a, ha, hwa⟩ := h.2 _ _ _ _ _ _ _ _ _ hy
  obtain ⟨b, hb, hwb⟩ := hr.all H enc w base spare held n cs hl' (fun i g hg => hi (i + 1) g (by simpa using hg))
  refine ⟨(a, b), ⟨_, _, ?_, ha, hb⟩, hwa, hwb⟩
  rw [← List.drop_drop, List.take_append_drop]
theorem opens_struct {α β : Type} {P : Program} {t : TypeId} {fs : Array Field} {d : Kd α} {wf : α → Prop} (ht : P.underlying t = some (.struct fs)) (hc : P.cellsOf t = d.sz) (h : OpensFs P fs.toList 0 d wf) (f : β → α) (g : α → β) (hg : ∀ x, f (g x) = x) : Opens P t (Kd.iso d f) (fun b => wf (f b)) := by
  refine ⟨hc, fun H enc w base spare held fuel cs x hx => ?_⟩
  obtain ⟨xs, n, _, _, hlen, hxl, hf⟩ := DataW.trod_struct ht hx
  obtain ⟨a, ha, hwf⟩ := h.all _ enc w base spare held n cs (by rw [hlen, hc]; omega) (fun i fl hfl => by
    have h1 := hf i fl (by simpa using hfl)
    have hi : i < xs.length := by rw [hxl]; simpa using (List.getElem?_eq_some_iff.1 hfl).1
    exact ⟨_, h1.trans (List.getElem?_eq_getElem hi)⟩)
  refine ⟨g a, ?_, by show wf (f (g a)); rw [hg]; exact hwf⟩
  show d.K w (f (g a)) cs
  rw [hg]
  simpa using ha
/-- A parameter. -/
theorem opens_arg {H α : Type} {enc : TypeId × Value → H} {P : Program} {W : World} {base : Nat} {spare : Nat → Bool} {held : Bool} {t : TypeId} {v : Value} {x : DataW H} {ps : List MemPlace} {d : Kd α} {wf : α → Prop} (ho : Opens P t d wf) (h : DataW.Trod enc P W base spare held t v x ps) : ∃ a : α, d.K W a v.cells.toList ∧ wf a := by
  obtain ⟨fuel, hf⟩ := h
  exact ho.2 _ _ _ _ _ _ _ _ _ hf
theorem trod_lt_arg {H : Type} {enc : TypeId × Value → H} {P : Program} {W : World} {base : Nat} {spare : Nat → Bool} {held : Bool} {t : TypeId} {v : Value} {x : DataW H} {ps : List MemPlace} (h : DataW.Trod enc P W base spare held t v x ps) : ∀ y ∈ ps, y.block < W.heap.size := by
  obtain ⟨m, hm⟩ := h
  exact DataW.trod_lt m _ _ _ hm
theorem agg_of {P : Program} {W : World} {r : Reach} {b0 : Nat} {t : TypeId} {fs : Array Field} {v : Value} (ht : P.underlying t = some (.struct fs)) (hv : Value.okWide P W r b0 t v) {l : List Value} (hl : v.cells.toList = l) : v = .agg l.toArray := by
  obtain ⟨cs, rfl, _⟩ := okWide_struct ht hv
  subst hl
  simp [Value.cells]
end Go.Proofs.Ytfegbmlcbdjcgaa.Open
