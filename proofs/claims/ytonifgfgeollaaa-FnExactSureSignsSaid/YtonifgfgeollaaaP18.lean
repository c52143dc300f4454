import Derived.Test.YtonifgfgeollaaaP1
import Derived.Test.YtonifgfgeollaaaP4
import Derived.Test.YtonifgfgeollaaaP8
import Derived.Test.YtonifgfgeollaaaP15
import Derived.Test.YtonifgfgeollaaaP16
import Derived.Test.YtonifgfgeollaaaP17
import Derived.ChangeArms
import Derived.Deep.Slices
import Derived.WideShapes
import Derived.Carry
section
/- The sure signs: the program and the reference. -/
--! needs LBase LPzGood LSols LSolve spec_SureSigns impl_SureSigns
namespace Go.Proofs.Ytonifgfgeollaaa.X
open Go.Proofs.Ytonifgfgeollaaa.Sq Go.RowKit Go.Proofs.YtonifgfgeollaaaW.PrintWords Go.Proofs.YtonifgfgeollaaaW.PrintLast Go.Proofs.YtonifgfgeollaaaW.PrintMore
attribute [local go_sem] max2_int min2_int max_two min_two max_three min_three max_four min_four   -- for this text's walks alone
set_option linter.unusedVariables false
set_option linter.unusedSimpArgs false
def bS (l : List UInt8) : ByteArray := ⟨l.toArray⟩
theorem bS_app (a b : List UInt8) : bS a ++ bS b = bS (a ++ b) := by
  apply ByteArray.ext
  simp [bS, ByteArray.data_append]
theorem bS_size (l : List UInt8) : (bS l).size = l.length := by simp [bS, ByteArray.size]
theorem tl1 (c : UInt8) : (⟨#[c]⟩ : ByteArray).toList = [c] := by simp [ByteArray.toList, ByteArray.toList.loop, ByteArray.size]; rfl
def at_ (s : ByteArray) (i : Nat) : UInt8 := s.data.toList.getD i 0
theorem ex1 (s : ByteArray) (i : Nat) (h : i < s.size) : s.extract i (i + 1) = ⟨#[at_ s i]⟩ := by
  have h' : i < s.data.size := h
  unfold at_
  apply ByteArray.ext
  rw [ByteArray.data_extract]
  apply Array.ext
  · simp; omega
  · intro j h1 h2
    have hj : j = 0 := by simp at h2; omega
    subst hj
    simp [List.getD, Array.getElem?_eq_getElem h']
/-- The first m rows bear the first one's sign at i. -/
def okB (L : List ByteArray) (i m : Nat) : Bool := (L.take m).all fun r => decide (at_ r i = at_ (L.getD 0 ByteArray.empty) i)
def sureL (L : List ByteArray) (n : Nat) : List UInt8 := (List.range n).map fun i => if okB L i L.length = true then at_ (L.getD 0 ByteArray.empty) i else 63
theorem okB_next (L : List ByteArray) (i m : Nat) (h : m < L.length) : okB L i (m + 1) = (okB L i m && decide (at_ (L.getD m ByteArray.empty) i = at_ (L.getD 0 ByteArray.empty) i)) := by
  unfold okB
  rw [List.take_succ_eq_append_getElem h, List.all_append, getElem_getD L m ByteArray.empty h]
  simp
/-! the program -/
def stS (L : List ByteArray) (n j i : Nat) : List Int := (List.range n).map fun x => if okB L x (if x < i then j + 1 else j) = true then ((at_ (L.getD 0 ByteArray.empty) x).toNat : Int) else 63
theorem stS_len (L : List ByteArray) (n j i : Nat) : (stS L n j i).length = n := by simp [stS]
theorem stS_at (L : List ByteArray) (n j i x : Nat) (h : x < n) : (stS L n j i)[x]? = some (if okB L x (if x < i then j + 1 else j) = true then ((at_ (L.getD 0 ByteArray.empty) x).toNat : Int) else 63) := by
  unfold stS
  rw [List.getElem?_map, List.getElem?_range h]
  rfl
theorem stS_eq (L : List ByteArray) (n j i : Nat) (hi : i < n) (hj : j < L.length) (he : at_ (L.getD j ByteArray.empty) i = at_ (L.getD 0 ByteArray.empty) i) : stS L n j i = stS L n j (i + 1) := by
  apply List.ext_getElem?
  intro x
  by_cases hx : x < n
  · rw [stS_at L n j i x hx, stS_at L n j (i + 1) x hx]
    by_cases hxi : x = i
    · subst hxi
      rw [if_neg (Nat.lt_irrefl x), if_pos (Nat.lt_succ_self x), okB_next L x j hj, he]
      simp
    · by_cases h1 : x < i
      · rw [if_pos h1, if_pos (show x < i + 1 by omega)]
      · rw [if_neg h1, if_neg (show ¬ x < i + 1 by omega)]
  · rw [List.getElem?_eq_none (by rw [stS_len]; omega), List.getElem?_eq_none (by rw [stS_len]; omega)]
theorem stS_ne (L : List ByteArray) (n j i : Nat) (hi : i < n) (hj : j < L.length) (he : at_ (L.getD j ByteArray.empty) i ≠ at_ (L.getD 0 ByteArray.empty) i) : (stS L n j i).set i 63 = stS L n j (i + 1) := by
  apply List.ext_getElem?
  intro x
  by_cases hx : x < n
  · rw [stS_at L n j (i + 1) x hx, List.getElem?_set]
    by_cases hxi : i = x
    · subst hxi
      rw [if_pos rfl, if_pos (by rw [stS_len]; exact hx), if_pos (Nat.lt_succ_self i), okB_next L i j hj, decide_eq_false he, Bool.and_false]
      rfl
    · rw [if_neg hxi, stS_at L n j i x hx]
      by_cases h1 : x < i
      · rw [if_pos h1, if_pos (show x < i + 1 by omega)]
      · rw [if_neg h1, if_neg (show ¬ x < i + 1 by omega)]
  · rw [List.getElem?_eq_none (by rw [List.length_set, stS_len]; omega), List.getElem?_eq_none (by rw [stS_len]; omega)]
theorem stS_turn (L : List ByteArray) (n j : Nat) : stS L n j n = stS L n (j + 1) 0 := by
  unfold stS
  apply List.map_congr_left
  intro x hx
  have := List.mem_range.1 hx
  rw [if_pos this, if_neg (Nat.not_lt_zero x)]
theorem stS_zero (L : List ByteArray) (h0 : 0 < L.length) : stS L (L.getD 0 ByteArray.empty).size 0 0 = numsOf (L.getD 0 ByteArray.empty) := by
  apply List.ext_getElem?
  intro x
  by_cases hx : x < (L.getD 0 ByteArray.empty).size
  · rw [stS_at _ _ _ _ x hx]
    have hx' : x < (L.getD 0 ByteArray.empty).data.size := hx
    have ho : okB L x (if x < 0 then 0 + 1 else 0) = true := by rw [if_neg (Nat.not_lt_zero x)]; rfl
    rw [if_pos ho]
    unfold numsOf at_
    rw [List.getElem?_map, List.getD_eq_getElem?_getD, Array.getElem?_toList, Array.getElem?_eq_getElem hx']
    rfl
  · rw [List.getElem?_eq_none (by rw [stS_len]; omega), List.getElem?_eq_none (by unfold numsOf; rw [List.length_map, Array.length_toList]; exact Nat.le_of_not_lt hx)]
theorem stS_end (L : List ByteArray) (n : Nat) : strOfNums (stS L n L.length 0) = bS (sureL L n) := by
  unfold strOfNums bS stS sureL
  rw [List.map_map]
  congr 2
  apply List.map_congr_left
  intro x _
  simp only [Function.comp_apply]
  rw [if_neg (Nat.not_lt_zero x)]
  split
  · simp
  · rfl
theorem sure_impl (L : List ByteArray) (n : Nat) (hn : ∀ m, m < L.length → (L.getD m ByteArray.empty).size = n) (h0 : 0 < L.length) : ∀ (d j : Nat), j + d = L.length → Ev (fun k => impl_SureSigns.l0 k L (stS L n j 0) j) (bS (sureL L n))
 | 0, j, hj => by
  refine Ev.step (fun k => by rw [impl_SureSigns.l0]) ?_
  refine evNeg (by omega) (evSome ?_)
  rw [show j = L.length by omega]
  exact stS_end L n
 | d + 1, j, hj => by
  refine Ev.step (fun k => by rw [impl_SureSigns.l0]) ?_
  refine evPos (by omega) ?_
  have hB : ∀ (e i : Nat), i + e = n → Ev (fun k => impl_SureSigns.l1 k L (stS L n j i) j i) (bS (sureL L n)) := by
    intro e
    induction e with
    | zero =>
      intro i hi
      refine Ev.step (fun k => by rw [impl_SureSigns.l1]) ?_
      refine evNeg (by rw [hn j (by omega)]; omega) ?_
      rw [show i = n by omega, stS_turn]
      exact sure_impl L n hn h0 d (j + 1) (by omega)
    | succ e ih =>
      intro i hi
      refine Ev.step (fun k => by rw [impl_SureSigns.l1]) ?_
      refine evPos (by rw [hn j (by omega)]; omega) (evPos (by rw [hn 0 h0]; omega) (evSplit (fun c => ?_) (fun c => ?_)))
      · rw [stS_eq L n j i (by omega) (by omega) c]
        exact ih (i + 1) (by omega)
      · rw [stS_ne L n j i (by omega) (by omega) c]
        exact ih (i + 1) (by omega)
  exact hB n 0 (Nat.zero_add _)
/-! the reference -/
theorem okB_drop (L : List ByteArray) (i : Nat) : ∀ (d m : Nat), m + d = L.length → okB L i m = true → okB L i L.length = ((L.drop m).all fun r => decide (at_ r i = at_ (L.getD 0 ByteArray.empty) i)) := by
  intro d m hm h
  unfold okB at h ⊢
  rw [List.take_length, ← List.take_append_drop m L, List.all_append]
  rw [List.take_append_drop]
  rw [h, Bool.true_and]
theorem sure_spec (L : List ByteArray) (n : Nat) (h8 : n ≤ 100) (hL : L.length ≤ 1000) (q : Int) (l : List S25) (hq : q = (n : Int)) (hn : ∀ m, m < L.length → (L.getD m ByteArray.empty).size = n) (h0 : 0 < L.length) : ∀ (d i : Nat), i + d = n → Ev (fun k => spec_SureSigns.l0 k L (bS ((sureL L n).take i)) (i : Int) q l) (bS (sureL L n), true)
 | 0, i, hi => by
  refine Ev.step (fun k => by rw [spec_SureSigns.l0]) ?_
  refine evNeg (by omega) (evSome ?_)
  rw [List.take_of_length_le (by unfold sureL; simp; omega)]
 | d + 1, i, hi => by
  refine Ev.step (fun k => by rw [spec_SureSigns.l0]) ?_
  have hw : wrap64 ((i : Int) + 1) = ((i + 1 : Nat) : Int) := (w64 (by omega) (by omega)).trans (by omega)
  have r0 : rdOf ByteArray.empty L 0 = L.getD 0 ByteArray.empty := rfl
  rw [hw, r0, Int.toNat_natCast, Int.toNat_natCast, ex1 _ i (by rw [hn 0 h0]; omega)]
  refine evPos (by omega) (evPos (by omega) (evPos (by omega) (evPos (by omega) (evPos (by rw [hn 0 h0]; omega) ?_))))
  have hsl : (sureL L n).length = n := by simp [sureL]
  have hnext : ∀ c : UInt8, c = (if okB L i L.length = true then at_ (L.getD 0 ByteArray.empty) i else 63) → Ev (fun k => if (bS ((sureL L n).take i)).size + 1 ≤ 9223372036854775807 then spec_SureSigns.l0 k L (bS ((sureL L n).take i) ++ (⟨#[c]⟩ : ByteArray)) (wrap64 ((i : Int) + 1)) q l else none) (bS (sureL L n), true) := by
    intro c hc
    refine evPos (by rw [bS_size, List.length_take]; omega) ?_
    rw [hw, show (⟨#[c]⟩ : ByteArray) = bS [c] from rfl, bS_app]
    have ht : (sureL L n).take i ++ [c] = (sureL L n).take (i + 1) := by
      rw [List.take_succ_eq_append_getElem (by rw [hsl]; omega)]
      congr 2
      rw [hc]
      unfold sureL
      rw [List.getElem_map, List.getElem_range]
    rw [ht]
    exact sure_spec L n h8 hL q l hq hn h0 d (i + 1) (by omega)
  have hB : ∀ (e m : Nat), m + e = L.length → okB L i m = true → Ev (fun k => spec_SureSigns.l1 k L (bS ((sureL L n).take i)) (i : Int) (⟨#[at_ (L.getD 0 ByteArray.empty) i]⟩ : ByteArray) L (L.length : Int) (m : Int) q l) (bS (sureL L n), true) := by
    intro e
    induction e with
    | zero =>
      intro m hm ho
      refine Ev.step (fun k => by rw [spec_SureSigns.l1]) ?_
      refine evNeg (by omega) (hnext _ ?_)
      rw [show L.length = m by omega, if_pos ho]
    | succ e ih =>
      intro m hm ho
      refine Ev.step (fun k => by rw [spec_SureSigns.l1]) ?_
      have rm : rdOf ByteArray.empty L (m : Int) = L.getD m ByteArray.empty := by unfold rdOf; rw [Int.toNat_natCast]
      have hwm : wrap64 ((m : Int) + 1) = ((m + 1 : Nat) : Int) := (w64 (by omega) (by omega)).trans (by omega)
      rw [rm, hw, hwm, Int.toNat_natCast, Int.toNat_natCast, ex1 _ i (by rw [hn m (by omega)]; omega), tl1, tl1]
      refine evPos (by omega) (evPos (by omega) (evPos (by omega) (evPos (by omega) (evPos (by omega) (evPos (by rw [hn m (by omega)]; omega) (evSplit (fun c => ?_) (fun c => ?_)))))))
      · have hc : at_ (L.getD m ByteArray.empty) i = at_ (L.getD 0 ByteArray.empty) i := by simpa using c
        exact ih (m + 1) (by omega) (by rw [okB_next L i m (by omega), ho, hc]; simp)
      · have hc : at_ (L.getD m ByteArray.empty) i ≠ at_ (L.getD 0 ByteArray.empty) i := by simpa using c
        rw [← hw]
        refine hnext 63 ?_
        have hno : okB L i L.length = false := by
          rw [okB_drop L i (e + 1) m hm ho, List.drop_eq_getElem_cons (by omega), List.all_cons, getElem_getD L m ByteArray.empty (by omega), decide_eq_false hc]
          rfl
        rw [hno]
        rfl
  exact hB L.length 0 (Nat.zero_add _) rfl
end Go.Proofs.Ytonifgfgeollaaa.X
end
section
/- The program's SureSigns and the reference's come to the same, at every input. -/
namespace Go.Proofs.Ytonifgfgeollaaa.Pure
open Go.RowKit Go.Proofs.Ytonifgfgeollaaa.X Go.Proofs.YtonifgfgeollaaaW.PrintWords Go.Proofs.YtonifgfgeollaaaW.PrintLast
theorem sols_size (p : Nat) (l : List S25) (r : ByteArray) (h : r ∈ sols p l) : r.size = p := by
  unfold sols solsTo at h
  obtain ⟨n, _, rfl⟩ := List.mem_map.1 h
  exact riv_size p n
def sureC (q : Int) (l : List S25) : ByteArray × Bool := if (solC q l).length = 0 then (⟨#[]⟩, false) else (bS (sureL (solC q l) q.toNat), true)
theorem solC_size (q : Int) (l : List S25) (m : Nat) (h : m < (solC q l).length) : ((solC q l).getD m ByteArray.empty).size = q.toNat ∧ goodB q l = true := by
  cases hg : goodB q l with
  | false => rw [solC_not q l hg] at h; simp at h
  | true =>
    refine ⟨?_, rfl⟩
    rw [← getElem_getD _ m ByteArray.empty h]
    have he : solC q l = sols q.toNat l := by unfold solC; rw [if_pos hg]
    have hm := List.getElem_mem h
    exact sols_size q.toNat l _ (he ▸ hm)
theorem sure_both (q : Int) (l : List S25) : Ev (fun k => spec_SureSigns.f k q l) (sureC q l) ∧ Ev (fun k => impl_SureSigns.f k q l) (sureC q l) := by
  have hlen := solC_len q l
  unfold spec_SureSigns.f impl_SureSigns.f sureC
  refine ⟨Ev.bind (pzGood_ev q l) ?_, Ev.bind (Solutions_impl q l) ?_⟩
  · cases hg : goodB q l with
    | false =>
      rw [if_pos (by rw [solC_not q l hg]; rfl)]
      exact evNeg (by simp) (evSome rfl)
    | true =>
      refine evPos rfl (Ev.bind (all_spec q l hg) ?_)
      by_cases h0 : (solC q l).length = 0
      · rw [if_pos h0]
        exact evPos (by omega) (evSome rfl)
      · rw [if_neg h0]
        obtain ⟨p, hp, h1, h2, _, _⟩ := goodB_parts q l hg
        refine evNeg (by omega) ?_
        have hw := sure_spec (solC q l) q.toNat (by omega) (by omega) q l (by omega) (fun m hm => (solC_size q l m hm).1) (by omega) q.toNat 0 (Nat.zero_add _)
        exact hw
  · by_cases h0 : (solC q l).length = 0
    · rw [if_pos h0]
      exact evPos h0 (evSome rfl)
    · rw [if_neg h0]
      obtain ⟨hs, hg⟩ := solC_size q l 0 (by omega)
      obtain ⟨p, hp, h1, h2, _, _⟩ := goodB_parts q l hg
      refine evNeg h0 (evPos ⟨by show (solC q l).length ≤ 100000; omega, by rw [hs]; omega⟩ ?_)
      have hw := sure_impl (solC q l) q.toNat (fun m hm => (solC_size q l m hm).1) (by omega) (solC q l).length 0 (Nat.zero_add _)
      have hz := stS_zero (solC q l) (by omega)
      rw [hs] at hz
      rw [hz] at hw
      exact Ev.bind hw (evSome rfl)
theorem FnExactSureSigns : laws_FnExactSureSigns.Pure := by
  intro p l _ hl
  refine Ev.rounds ?_
  unfold laws_FnExactSureSigns.f
  refine evBind0 (szPuzzle_eq p l hl.1) ?_
  by_cases h : 1048576 < l.length
  · rw [if_pos h]
    exact evPos (by omega) (evSome rfl)
  rw [if_neg h]
  refine evNeg (by omega) ?_
  generalize hm0 : l.map cvClue = m
  have hml : m.length ≤ 1048576 := by rw [← hm0]; simp; omega
  have hP : Ev (fun k => laws_toPuzzle.f k p l) (p, m) := by rw [← hm0]; exact toPuzzle_ev p l (by omega)
  obtain ⟨hS, hI⟩ := sure_both p m
  refine Ev.bind hP (Ev.bind hS (Ev.bind hP (Ev.bind hI (evPos rfl ?_))))
  refine Ev.step (fun k => by rw [laws_FnExactSureSigns.j0]) ?_
  exact evNeg (by simp) (Ev.bind hP (Ev.bind (eqPuzzle_self p m (by omega)) (evPos rfl (evSome rfl))))
end Go.Proofs.Ytonifgfgeollaaa.Pure
end
section
/- How an argument of any plain type is opened: what the row says of it gives what the walks read. -/
set_option linter.unusedVariables false
namespace Go.Proofs.Ytonifgfgeollaaa.Open
open Go.ChangeShapes Go.WideShapes Go.Deep Go.RowKit Go.Proofs.YtonifgfgeollaaaW.PrintWords
/-- Whatever reads at type t is a value of the kind d, and meets wf. -/
structure Opens {α : Type} (P : Program) (t : TypeId) (d : Kd α) (wf : α → Prop) : Prop where
  intro ::
  size : P.cellsOf t = d.sz
  all : ∀ (H : Type) (enc : TypeId × Value → H) (w : World) (base : Nat) (spare : Nat → Bool) (held : Bool) (fuel : Nat) (cs : List Value) (x : DataW H × List MemPlace),
    DataW.trod enc P w base spare held fuel t cs = some x → ∃ a : α, d.K w a cs ∧ wf a
theorem opens_int {P : Program} {t : TypeId} {k : IntKind} (ht : P.underlying t = some (.int k)) (hc : P.cellsOf t = 1) : Opens P t (Kd.int k) (fun n => (Lit.int k n).wf = true) := by
  refine ⟨hc, fun H enc w base spare held fuel cs x h => ?_⟩
  obtain ⟨n, rfl, _, hw⟩ := DataW.trod_int ht h
  exact ⟨n, rfl, hw⟩
theorem choose_list {α : Type} {Q : Nat → α → Prop} : ∀ (n : Nat), (∀ i, i < n → ∃ a, Q i a) → ∃ l : List α, l.length = n ∧ ∀ i a, l[i]? = some a → Q i a
  | 0, _ => ⟨[], rfl, fun i a h => by simp at h⟩
  | n + 1, h => by
    obtain ⟨l, hl, hq⟩ := choose_list n (fun i hi => h i (by omega))
    obtain ⟨a, ha⟩ := h n (by omega)
    refine ⟨l ++ [a], by simp [hl], fun i b hb => ?_⟩
    by_cases hi : i < l.length
    · rw [List.getElem?_append_left hi] at hb
      exact hq i b hb
    · rw [List.getElem?_append_right (by omega)] at hb
      by_cases e : i - l.length = 0
      · rw [e] at hb
        simp at hb
        subst hb
        have : i = n := by omega
        rw [this]
        exact ha
      · rw [List.getElem?_singleton, if_neg e] at hb
        cases hb
theorem cells?_at {w : World} {base : Nat} {a : Addr} {n : Nat} {cs : List Value} (h : w.cells? base a n = some cs) : cs.length = n ∧ ∀ i u, cs[i]? = some u → w.cell? (a.add i) = some u := by
  obtain ⟨_, hl, hat⟩ := World.cells?_some h
  refine ⟨hl, fun i u hi => ?_⟩
  have : i < n := by rw [← hl]; exact (List.getElem?_eq_some_iff.1 hi).1
  rw [hat i this]
  exact hi
theorem opens_slice {α : Type} {P : Program} {t e : TypeId} {d : Kd α} {wf : α → Prop} (ht : P.underlying t = some (.slice e)) (hc : P.cellsOf t = 1) (he : Opens P e d wf) : Opens P t (Kd.slice e d) (fun l => l.length ≤ maxLen ∧ ∀ x ∈ l, wf x) := by
  refine ⟨hc, fun H enc w base spare held fuel cs x h => ?_⟩
  rcases open_slice ht h with ⟨rfl, _⟩ | ⟨a, len, cap, m, n, D, Pl, rfl, _, hl, hm, hmm, _, hi⟩
  · exact ⟨[], ⟨none, 0, rfl, by simp, Kd.C_nil d w⟩, by simp, by simp⟩
  · have hlm : len ≤ m := by rw [hmm]; split <;> omega
    obtain ⟨l, hll, hq⟩ := choose_list (Q := fun i (b : α) => ∃ c, c.length = d.sz ∧ d.K w b c ∧ wf b ∧ ∀ j u, c[j]? = some u → w.cell? (a.add (i * d.sz + j)) = some u) len (fun i hil => by
      obtain ⟨cs', h1, h2⟩ := hi i (by omega)
      obtain ⟨hl1, hat⟩ := cells?_at h1
      obtain ⟨b, hK, hwf⟩ := he.2 _ _ _ _ _ _ _ _ _ h2
      refine ⟨b, cs', by rw [hl1, he.1], hK, hwf, fun j u hj => ?_⟩
      have := hat j u hj
      rw [Go.Deep.add_add, he.1] at this
      exact this)
    refine ⟨l, ⟨some a, cap, by rw [hll], by omega, ⟨rfl, by rw [hll]; unfold maxLen at hm; omega, fun _ => ⟨a, rfl, fun j p hp => ?_⟩⟩⟩, by rw [hll]; omega, fun x hx => ?_⟩
    · obtain ⟨c, h1, h2, _, h4⟩ := hq j p hp
      exact ⟨c, h1, h2, h4⟩
    · obtain ⟨i, hi⟩ := List.getElem?_of_mem hx
      obtain ⟨c, _, _, h3, _⟩ := hq i x hi
      exact h3
/-- The fields from place o on. -/
structure OpensFs {α : Type} (P : Program) (fs : List Field) (o : Nat) (d : Kd α) (wf : α → Prop) : Prop where
  intro ::
  all : ∀ (H : Type) (enc : TypeId × Value → H) (w : World) (base : Nat) (spare : Nat → Bool) (held : Bool) (n : Nat) (cs : List Value), cs.length = o + d.sz →
    (∀ (i : Nat) (f : Field), fs[i]? = some f → ∃ y, DataW.trod enc P w base spare held n f.type ((cs.drop f.offset).take (P.cellsOf f.type)) = some y) → ∃ a : α, d.K w a (cs.drop o) ∧ wf a
theorem opens_last {α : Type} {P : Program} {f : Field} {o : Nat} {d : Kd α} {wf : α → Prop} (h : Opens P f.type d wf) (hf : f.offset = o) : OpensFs P [f] o d wf := by
  refine ⟨fun H enc w base spare held n cs hl hi => ?_⟩
  obtain ⟨y, hy⟩ := hi 0 f rfl
  rw [hf, h.1, List.take_of_length_le (by rw [List.length_drop]; omega)] at hy
  exact h.2 _ _ _ _ _ _ _ _ _ hy
theorem opens_cons {α β : Type} {P : Program} {f : Field} {fs : List Field} {o : Nat} {d : Kd α} {wf : α → Prop} {d' : Kd β} {wf' : β → Prop} (h : Opens P f.type d wf) (hf : f.offset = o) (hr : OpensFs P fs (o + d.sz) d' wf') : OpensFs P (f :: fs) o (Kd.pair d d') (fun x => wf x.1 ∧ wf' x.2) := by
  refine ⟨fun H enc w base spare held n cs hl hi => ?_⟩
  have hl' : cs.length = o + d.sz + d'.sz := by rw [hl]; show o + (d.sz + d'.sz) = _; omega
  obtain ⟨y, hy⟩ := hi 0 f rfl
  rw [hf, h.1] at hy
  obtain ⟨a, ha, hwa⟩ := h.2 _ _ _ _ _ _ _ _ _ hy
  obtain ⟨b, hb, hwb⟩ := hr.all H enc w base spare held n cs hl' (fun i g hg => hi (i + 1) g (by simpa using hg))
  refine ⟨(a, b), ⟨_, _, ?_, ha, hb⟩, hwa, hwb⟩
  rw [← List.drop_drop, List.take_append_drop]
theorem opens_struct {α β : Type} {P : Program} {t : TypeId} {fs : Array Field} {d : Kd α} {wf : α → Prop} (ht : P.underlying t = some (.struct fs)) (hc : P.cellsOf t = d.sz) (h : OpensFs P fs.toList 0 d wf) (f : β → α) (g : α → β) (hg : ∀ x, f (g x) = x) : Opens P t (Kd.iso d f) (fun b => wf (f b)) := by
  refine ⟨hc, fun H enc w base spare held fuel cs x hx => ?_⟩
  obtain ⟨xs, n, _, _, hlen, hxl, hf⟩ := DataW.trod_struct ht hx
  obtain ⟨a, ha, hwf⟩ := h.all _ enc w base spare held n cs (by rw [hlen, hc]; omega) (fun i fl hfl => by
    have h1 := hf i fl (by simpa using hfl)
    have hi : i < xs.length := by rw [hxl]; simpa using (List.getElem?_eq_some_iff.1 hfl).1
    exact ⟨_, h1.trans (List.getElem?_eq_getElem hi)⟩)
  refine ⟨g a, ?_, by show wf (f (g a)); rw [hg]; exact hwf⟩
  show d.K w (f (g a)) cs
  rw [hg]
  simpa using ha
/-- A parameter. -/
theorem opens_arg {H α : Type} {enc : TypeId × Value → H} {P : Program} {W : World} {base : Nat} {spare : Nat → Bool} {held : Bool} {t : TypeId} {v : Value} {x : DataW H} {ps : List MemPlace} {d : Kd α} {wf : α → Prop} (ho : Opens P t d wf) (h : DataW.Trod enc P W base spare held t v x ps) : ∃ a : α, d.K W a v.cells.toList ∧ wf a := by
  obtain ⟨fuel, hf⟩ := h
  exact ho.2 _ _ _ _ _ _ _ _ _ hf
theorem trod_lt_arg {H : Type} {enc : TypeId × Value → H} {P : Program} {W : World} {base : Nat} {spare : Nat → Bool} {held : Bool} {t : TypeId} {v : Value} {x : DataW H} {ps : List MemPlace} (h : DataW.Trod enc P W base spare held t v x ps) : ∀ y ∈ ps, y.block < W.heap.size := by
  obtain ⟨m, hm⟩ := h
  exact DataW.trod_lt m _ _ _ hm
theorem agg_of {P : Program} {W : World} {r : Reach} {b0 : Nat} {t : TypeId} {fs : Array Field} {v : Value} (ht : P.underlying t = some (.struct fs)) (hv : Value.okWide P W r b0 t v) {l : List Value} (hl : v.cells.toList = l) : v = .agg l.toArray := by
  obtain ⟨cs, rfl, _⟩ := okWide_struct ht hv
  subst hl
  simp [Value.cells]
end Go.Proofs.Ytonifgfgeollaaa.Open
end
