import Derived.Test.YtfegbmlcbdjcgaaDoorP5
import Derived.Test.YtfegbmlcbdjcgaaDoorP6
import Derived.Test.YtfegbmlcbdjcgaaDoorP7
import Derived.Test.YtfegbmlcbdjcgaaDoorP8
import Derived.Test.YtfegbmlcbdjcgaaDoorP11
import Derived.Shelf.Slices.Reverse
import Derived.Sort.OwnSortedInts
import Derived.Maps.Own
import Derived.Maps.OwnOps
import Derived.Maps.OwnSet
import Derived.Maps.Views
import Derived.Deep.LoopGhost
import Derived.StringKeys
section
/- FewestTurns: a map of strings, a list of rows that grows while it is gone through. -/
--! fn impl.turnedFront|impl_turnedFront|making
--! fn impl.FewestTurns|impl_FewestTurns|rounds|making
--! uses impl.IsOrder; impl.right; impl.joined; slices.Clone[[]int,int]
--! asks pow10
--! lay ftRev := shelf_lay Lays.n112 Nm 112 at Tryd
--! laymod Derived.Shelf.Slices.Reverse Derived.Ground.NamesProg
namespace Go.Proofs.YtfegbmlcbdjcgaaDoor.X
open Go.Proofs.YtfegbmlcbdjcgaaDoor.Sq Go.RowKit Go.Proofs.YtfegbmlcbdjcgaaDoorW.PrintWords Go.Proofs.YtfegbmlcbdjcgaaDoorW.PrintLast Go.Proofs.YtfegbmlcbdjcgaaDoorW.PrintMore
attribute [local go_sem] max2_int min2_int max_two min_two max_three min_three max_four min_four   -- for this text's walks alone
set_option linter.unusedVariables false
set_option linter.unusedSimpArgs false
def turnL (l : List Int) (m : Nat) : List Int := (l.take m).reverse ++ l.drop m
theorem turnL_len (l : List Int) (m : Nat) : (turnL l m).length = l.length := by
  unfold turnL
  rw [List.length_append, List.length_reverse, List.length_take, List.length_drop]
  omega
abbrev Found := List (List Int × Nat)
def hasK (A : Found) (x : List Int) : Bool := A.any fun p => decide (p.1 = x)
def addF (A : Found) (x : List Int) (t : Nat) : Found := if hasK A x = true then A else A ++ [(x, t)]
/-- All turns of an order from m on, d of them. -/
def scanF (now : List Int) (t : Nat) : Nat → Nat → Found → Found
 | 0, _, A => A
 | d + 1, m, A => scanF now t d (m + 1) (addF A (turnL now m) (t + 1))
def nextF (n : Nat) (A : Found) (i : Nat) : Found := match A[i]? with
 | some p => scanF p.1 p.2 (n - 1) 2 A
 | none => A
def stF (n : Nat) (o : List Int) : Nat → Found
 | 0 => [(o, 0)]
 | i + 1 => nextF n (stF n o i) i
def finF (n : Nat) (o : List Int) : Found := stF n o (8 ^ 8)
theorem addF_pre (A : Found) (x : List Int) (t : Nat) : ∃ B, addF A x t = A ++ B ∧ (∀ p ∈ B, p.2 = t) := by
  unfold addF
  split
  · exact ⟨[], by simp, by simp⟩
  · exact ⟨[(x, t)], rfl, fun p hp => by rw [List.mem_singleton.1 hp]⟩
theorem scanF_pre (now : List Int) (t : Nat) : ∀ (d m : Nat) (A : Found), ∃ B, scanF now t d m A = A ++ B ∧ (∀ p ∈ B, p.2 = t + 1)
 | 0, _, A => ⟨[], by simp [scanF], by simp⟩
 | d + 1, m, A => by
  obtain ⟨B, h1, h2⟩ := addF_pre A (turnL now m) (t + 1)
  obtain ⟨C, h3, h4⟩ := scanF_pre now t d (m + 1) (addF A (turnL now m) (t + 1))
  refine ⟨B ++ C, by rw [scanF, h3, h1, List.append_assoc], fun p hp => ?_⟩
  rcases List.mem_append.1 hp with hp | hp
  · exact h2 p hp
  · exact h4 p hp
theorem nextF_pre (n : Nat) (A : Found) (i : Nat) : ∃ B, nextF n A i = A ++ B := by
  unfold nextF
  split
  · obtain ⟨B, h, _⟩ := scanF_pre _ _ (n - 1) 2 A
    exact ⟨B, h⟩
  · exact ⟨[], by simp⟩
theorem stF_pre (n : Nat) (o : List Int) (i : Nat) : ∀ d, ∃ B, stF n o (i + d) = stF n o i ++ B
 | 0 => ⟨[], by simp⟩
 | d + 1 => by
  obtain ⟨B, h⟩ := stF_pre n o i d
  obtain ⟨C, h2⟩ := nextF_pre n (stF n o (i + d)) (i + d)
  exact ⟨B ++ C, by rw [← Nat.add_assoc, stF, h2, h, List.append_assoc]⟩
theorem stF_at {n : Nat} {o : List Int} {i : Nat} {p : List Int × Nat} (h : (stF n o i)[i]? = some p) : stF n o (i + 1) = scanF p.1 p.2 (n - 1) 2 (stF n o i) := by
  rw [stF, nextF, h]
theorem stF_stay {n : Nat} {o : List Int} {i0 : Nat} (h : (stF n o i0).length ≤ i0) : ∀ d, stF n o (i0 + d) = stF n o i0
 | 0 => rfl
 | d + 1 => by
  have ih := stF_stay h d
  rw [← Nat.add_assoc, stF, nextF, List.getElem?_eq_none (by rw [ih]; omega), ih]
theorem finF_eq {n : Nat} {o : List Int} {i0 : Nat} (h : (stF n o i0).length ≤ i0) (h8 : i0 ≤ 8 ^ 8) : finF n o = stF n o i0 := by
  obtain ⟨d, hd⟩ := Nat.exists_eq_add_of_le h8
  unfold finF
  rw [hd]
  exact stF_stay h d
theorem fin_pre {n : Nat} {o : List Int} {i : Nat} (h8 : i ≤ 8 ^ 8) : ∃ B, finF n o = stF n o i ++ B := by
  obtain ⟨d, hd⟩ := Nat.exists_eq_add_of_le h8
  unfold finF
  rw [hd]
  exact stF_pre n o i d
def lookF (A : Found) (x : List Int) : Nat := match A.find? (fun p => decide (p.1 = x)) with
 | some p => p.2
 | none => 0
theorem lookF_at {A : Found} (h : (A.map Prod.fst).Nodup) {x : List Int} {t : Nat} (hx : (x, t) ∈ A) : lookF A x = t := by
  unfold lookF
  cases hf : A.find? (fun p => decide (p.1 = x)) with
  | none => exact absurd (List.find?_eq_none.1 hf (x, t) hx) (by simp)
  | some p =>
    have h1 := List.mem_of_find?_eq_some hf
    have h2 : p.1 = x := by simpa using List.find?_some hf
    obtain ⟨i, hi, ei⟩ := List.getElem_of_mem h1
    obtain ⟨j, hj, ej⟩ := List.getElem_of_mem hx
    have hij : i = j := by
      have hm : (A.map Prod.fst)[i]'(by simpa using hi) = (A.map Prod.fst)[j]'(by simpa using hj) := by
        rw [List.getElem_map, List.getElem_map, ei, ej]
        exact h2
      have hP := List.pairwise_iff_getElem.1 h
      rcases Nat.lt_trichotomy i j with hl | hl | hl
      · exact absurd hm (hP i j _ _ hl)
      · exact hl
      · exact absurd hm.symm (hP j i _ _ hl)
    subst hij
    rw [ei] at ej
    rw [ej]
def keyL (x : List Int) : List UInt8 := x.map fun d => UInt8.ofNat (48 + d.toNat)
def keyB (x : List Int) : ByteArray := ⟨(keyL x).toArray⟩
/-- What the search leans on. -/
structure FtOk (k : Nat) (l : List Int) (t : List Int) : Prop where
  len : l.length ≤ 7
  stop : ∃ i0, (stF l.length l i0).length ≤ i0 ∧ i0 ≤ 8 ^ 8 ∧ ∀ i, i < i0 → i < (stF l.length l i).length
  key : ∀ p ∈ finF l.length l, p.1.length = l.length ∧ (∀ y ∈ p.1, 0 ≤ y ∧ y ≤ 9) ∧ impl_joined.f k p.1 ⟨#[]⟩ = some (keyB p.1) ∧ p.2 ≤ 8 ^ 8
  closed : ∀ p ∈ finF l.length l, ∀ m, 2 ≤ m → m ≤ l.length → ∃ s, (turnL p.1 m, s) ∈ finF l.length l
  goal : ∃ s, (t, s) ∈ finF l.length l
  once : ((finF l.length l).map Prod.fst).Nodup
  pos : 0 < l.length
open Classical in
noncomputable def impl_FewestTurns.f (k : Nat) (l0 : List Int) : Option (Int × Bool) := (impl_IsOrder.f l0).bind fun b => if b = true then (if 7 < l0.length then some (0, false) else (impl_right.f k (l0.length : Int)).bind fun t => (if FtOk k l0 t then some (((lookF (finF l0.length l0) t : Nat) : Int), true) else none)) else some (0, false)
theorem FtOk.up {k : Nat} {l t : List Int} (h : FtOk k l t) : FtOk (k + 1) l t :=
  ⟨h.len, h.stop, fun p hp => ⟨(h.key p hp).1, (h.key p hp).2.1, impl_joined.mono _ _ _ _ (h.key p hp).2.2.1, (h.key p hp).2.2.2⟩, h.closed, h.goal, h.once, h.pos⟩
/-! ### turnedFront -/
theorem put_turn (cur : Array Value) (l : List Int) (m : Nat) (hm : m ≤ l.length) (hl : l.length ≤ cur.size) (ht : cur.toList.take l.length = l.map (Value.int .i64)) :
    (Go.Sort.putCells (Value.int .i64) 0 (l.take m).reverse.toArray cur).toList.take l.length = (turnL l m).map (Value.int .i64) := by
  have hlen : (l.take m).reverse.length = m := by rw [List.length_reverse, List.length_take]; omega
  apply List.ext_getElem?
  intro j
  by_cases hj : j < l.length
  · rw [List.getElem?_take_of_lt hj, Array.getElem?_toList, List.getElem?_map]
    unfold Go.Sort.putCells turnL
    rw [Array.getElem?_mapIdx]
    have hc : cur[j]? = some (Value.int .i64 (l.getD j 0)) := by
      have h1 : (cur.toList.take l.length)[j]? = (l.map (Value.int .i64))[j]? := by rw [ht]
      rw [List.getElem?_take_of_lt hj, Array.getElem?_toList, List.getElem?_map, List.getElem?_eq_getElem hj] at h1
      rw [h1, List.getD_eq_getElem?_getD, List.getElem?_eq_getElem hj]
      rfl
    rw [hc, Option.map_some]
    by_cases hjm : j < m
    · have hjr : j < (l.take m).reverse.length := by omega
      rw [if_pos ⟨Nat.zero_le _, by simp; omega⟩, List.getElem?_append_left hjr, List.getElem?_eq_getElem hjr, Option.map_some]
      congr 2
      rw [Nat.sub_zero, getElem!_pos _ _ (by simpa using hjr)]
      simp
    · rw [if_neg (by simp; omega), List.getElem?_append_right (by omega), hlen, List.getElem?_drop, show m + (j - m) = j by omega, List.getElem?_eq_getElem hj, List.getD_eq_getElem?_getD, List.getElem?_eq_getElem hj]
      rfl
  · rw [List.getElem?_eq_none (by rw [List.length_take]; omega), List.getElem?_eq_none (by rw [List.length_map, turnL_len]; omega)]
set_option maxHeartbeats 4000000 in
set_option maxRecDepth 100000 in
theorem impl_turnedFront.calls (A0 : Option Addr) (c0 : Nat) (l0 : List Int) (m : Nat) (w : World) (hr0 : Kd.C (Kd.int .i64) w A0 l0.length l0) (hc0 : l0.length ≤ c0) (h0 : 0 < l0.length) (hl : l0.length ≤ 1000) (hm : m ≤ l0.length) :
    Calls Tryd.prog 15 #[.slice A0 l0.length c0, .int .i64 (m : Int)] w fun e w' => ∃ g c, e = .returned (.slice (some ⟨g, 0, none⟩) l0.length c) ∧ l0.length ≤ c ∧ w.heap.size ≤ g ∧ (∃ cur : Array Value, w'.heap[g]? = some (.cells cur 3 (0, 0)) ∧ cur.toList.take l0.length = (turnL l0 m).map (Value.int .i64)) ∧ Below w.heap.size w w' := by
  have hcl : slices_Clone_int.f l0 = some l0 := by unfold slices_Clone_int.f; simp only [Option.bind_some, List.nil_append, List.length_nil, Nat.zero_add]; exact if_pos (by omega)
  have hC := slices_Clone_int.calls A0 c0 l0 l0 w hr0 hc0 hcl
  have hC2 : Calls Tryd.prog 24 #[.slice A0 l0.length c0] w fun e w' => ∃ g c cur, e = .returned (.slice (some ⟨g, 0, none⟩) l0.length c) ∧ l0.length ≤ c ∧ w.heap.size ≤ g ∧ w'.heap[g]? = some (.cells cur 3 (0, 0)) ∧ cur.size = c ∧ cur.toList.take l0.length = l0.map (Value.int .i64) ∧ Below w.heap.size w w' := by
    refine hC.mono ?_
    rintro e w' ⟨v, rfl, hR, hb⟩
    rcases (Kd.own_of_R hR).2 with ⟨_, hz⟩ | ⟨g, cap, cur, rfl, hg, hh, h1, h2, h3, h4⟩
    · omega
    · exact ⟨g, cap, cur, rfl, h1, hg, hh, by omega, by rw [Nat.mul_one] at h4; exact h4, hb⟩
  clear hC hcl
  have hmi : (0 : Int) ≤ (m : Int) := by omega
  go_enter Tryd.func15, Tryd.ntmps15
  go_wp2_with (first | (go_at_call 24; refine hC2.mono ?_; rintro e w2 ⟨g, c, cur, rfl, hlc, hg, hh, hcs, hct, hb⟩; have hsl : ∀ W, (Instr.slice 22 (.slice (some ⟨g, 0, none⟩) l0.length c) none (some (.int .i64 (m : Int))) none).run Tryd.prog W = .ok (.slice (some ⟨g, 0, none⟩) m c) W := (fun W => by rw [run_slice_h (ht := Tryd.underlying22) (h0 := by omega) (h2 := by omega)]; go_simp; try omega)) | fail)
  have hml : (l0.take m).length = m := by rw [List.length_take]; omega
  have hht : cur.toList.take (l0.take m).length = (l0.take m).map (Value.int .i64) := by
    have h1 := congrArg (List.take m) hct
    rw [List.take_take, Nat.min_eq_left hm, ← List.map_take] at h1
    rw [hml]
    exact h1
  have hRv := Any.slices_Reverse_int ftRev g 0 c (l0.take m) w2 (holds_of_blockI hh hht) (by omega)
  rw [hml] at hRv
  refine hRv.mono ?_
  rintro e w3 ⟨rfl, q, hw3⟩
  have hG := grownBy_sortedI (w := w2) (g := g) (n := q) (os := #[]) (l0.take m).reverse.toArray
  rw [Go.Sort.grow_empty, ← hw3] at hG
  have hH := heap_sortedI (w := w2) (g := g) (n := q) (os := #[]) (l0.take m).reverse.toArray hh
  rw [Go.Sort.grow_empty, ← hw3] at hH
  clear hw3 hRv
  go_wp2_with fail
  go_ret
  exact ⟨g, c, rfl, hlc, hg, ⟨_, hH, put_turn cur l0 m hm (by omega) hct⟩, Below.grown hb hG (below_size hb) (fun k e => by injection e with e; subst e; exact hg)⟩
/-! ### The map -/
def klOf (x : List Int) : Lit := .string (keyL x)
def digL (x : List Int) : Prop := ∀ y ∈ x, 0 ≤ y ∧ y ≤ 9
theorem keyL_inj : ∀ (x y : List Int), digL x → digL y → keyL x = keyL y → x = y
 | [], [], _, _, _ => rfl
 | [], b :: y, _, _, h => by cases h
 | a :: x, [], _, _, h => by cases h
 | a :: x, b :: y, hx, hy, h => by
  obtain ⟨h1, h2⟩ := List.cons.inj h
  have ha := hx a (List.mem_cons_self ..)
  have hb := hy b (List.mem_cons_self ..)
  have e1 : (UInt8.ofNat (48 + a.toNat)).toNat = 48 + a.toNat := by simp; omega
  have e2 : (UInt8.ofNat (48 + b.toNat)).toNat = 48 + b.toNat := by simp; omega
  have e3 : (UInt8.ofNat (48 + a.toNat)).toNat = (UInt8.ofNat (48 + b.toNat)).toNat := congrArg UInt8.toNat h1
  have e : a = b := by omega
  rw [e, keyL_inj x y (fun z hz => hx z (List.mem_cons_of_mem _ hz)) (fun z hz => hy z (List.mem_cons_of_mem _ hz)) h2]
theorem klOf_ne {x y : List Int} (hx : digL x) (hy : digL y) (h : x ≠ y) : klOf y ≠ klOf x := fun e => h (keyL_inj x y hx hy (by unfold klOf at e; injection e with e; exact e.symm))
/-- The map reads as what has been found. -/
structure RepF (D : DataW Unit) (A : Found) : Prop where
  map : Go.Maps.IsMap D
  has : ∀ y, digL y → Go.Maps.has D (klOf y) = hasK A y
  val : ∀ y t, digL y → (y, t) ∈ A → D.atKey (klOf y) (.lit (.int .i64 0)) = .lit (.int .i64 (t : Int))
theorem RepF.put {D : DataW Unit} {A : Found} (h : RepF D A) {x : List Int} (hx : digL x) (hn : hasK A x = false) (t : Nat) : RepF (D.put (klOf x) (.lit (.int .i64 (t : Int)))) (A ++ [(x, t)]) := by
  have hk : WideAt.IsKeyLit (klOf x) := trivial
  refine ⟨?_, fun y hy => ?_, fun y s hy hm => ?_⟩
  · obtain ⟨es, rfl⟩ := h.map
    exact ⟨_, rfl⟩
  · by_cases e : y = x
    · subst e
      rw [Go.Maps.has_put_same h.map hk]
      simp [hasK]
    · rw [Go.Maps.has_put_other (klOf_ne hx hy (fun k => e k.symm)), h.has y hy]
      unfold hasK
      rw [List.any_append]
      simp [show ¬ x = y from fun k => e k.symm]
  · by_cases e : y = x
    · subst e
      rw [Go.Maps.atKey_put_same h.map hk]
      rcases List.mem_append.1 hm with hm | hm
      · exfalso
        have : hasK A y = true := by unfold hasK; rw [List.any_eq_true]; exact ⟨(y, s), hm, decide_eq_true rfl⟩
        rw [hn] at this
        cases this
      · simp only [List.mem_singleton, Prod.mk.injEq] at hm
        rw [hm.2]
    · rw [Go.Maps.atKey_put_other (klOf_ne hx hy (fun k => e k.symm))]
      rcases List.mem_append.1 hm with hm | hm
      · exact h.val y s hy hm
      · simp only [List.mem_singleton, Prod.mk.injEq] at hm
        exact absurd hm.1 e
theorem RepF.nil : RepF (.map []) [] := ⟨⟨[], rfl⟩, fun _ _ => rfl, fun _ _ _ h => by cases h⟩
theorem ad_block (ad : Addr) (i : Nat) : (ad.add i).block = ad.block := by
  unfold Addr.add
  split <;> rfl
structure FtMap (b : Nat) (W : World) (A : Found) : Prop where
  ex : ∃ (m : Nat) (D : DataW Unit), W.ownsMap Tryd.prog 9 (plainElem Tryd.prog 3) b m D ∧ m ≤ A.length ∧ RepF D A
theorem FtMap.kept {b : Nat} {W W1 : World} {A : Found} (h : FtMap b W A) {row : Option Nat} (hg : W.grownBy W1 row) (hne : some b ≠ row) : FtMap b W1 A := by
  obtain ⟨m, D, h1, h2, h3⟩ := h.ex
  exact ⟨m, D, h1.kept hg hne, h2, h3⟩
theorem FtMap.obj {b : Nat} {W : World} {A : Found} (h : FtMap b W A) : ∃ o : Obj, W.heap[b]? = some o ∧ o.isCells = false := by
  obtain ⟨m, D, ⟨es, cl, hb, _⟩, _⟩ := h.ex
  exact ⟨_, hb, rfl⟩
def InnerOK (w W : World) (ad : Addr) : Prop := ad.block < w.heap.size ∨ ∃ cells : Array Value, W.heap[ad.block]? = some (.cells cells 3 (0, 0))
def RowAt (w W : World) (vs : List Value) (j : Nat) (x : List Int) : Prop := ∃ ad c, vs[j]? = some (.slice (some ad) x.length c) ∧ x.length ≤ c ∧ (∀ i, i < x.length → W.cell? (ad.add i) = some (.int .i64 (x.getD i 0))) ∧ InnerOK w W ad
structure FtRow (w W : World) (v : Value) (A : Found) : Prop where
  ex : ∃ vs : List Value, W.ownsRow w.heap.size 22 1 v A.length vs ∧ ∀ j p, A[j]? = some p → RowAt w W vs j p.1
theorem RowAt.step {w W W1 : World} {vs vs1 : List Value} {j : Nat} {x : List Int} (h : RowAt w W vs j x) (hw : w.heap.size ≤ W.heap.size) {row : Option Nat} (hg : W.grownBy W1 row) (hr : ∀ r, row = some r → w.heap.size ≤ r ∧ ∀ cells, W.heap[r]? ≠ some (.cells cells 3 (0, 0))) (hv : ∀ u, vs[j]? = some u → vs1[j]? = some u) : RowAt w W1 vs1 j x := by
  obtain ⟨ad, c, h1, h2, h3, h4⟩ := h
  have hlt : ad.block < W.heap.size := by
    rcases h4 with h4 | ⟨cells, h4⟩
    · omega
    · exact blk_lt h4
  have hb : W1.heap[ad.block]? = W.heap[ad.block]? := hg.block ad.block hlt (fun e => by
    obtain ⟨r1, r2⟩ := hr ad.block e.symm
    rcases h4 with h4 | ⟨cells, h4⟩
    · omega
    · exact r2 cells h4)
  refine ⟨ad, c, hv _ h1, h2, fun i hi => ?_, ?_⟩
  · have hb2 : W1.heap[(ad.add i).block]? = W.heap[(ad.add i).block]? := by
      rw [ad_block]
      exact hb
    exact (World.cell?_of_block hb2).trans (h3 i hi)
  · rcases h4 with h4 | ⟨cells, h4⟩
    · exact .inl h4
    · exact .inr ⟨cells, hb.trans h4⟩
theorem FtRow.kept {w W W1 : World} {v : Value} {A : Found} (h : FtRow w W v A) (hw : w.heap.size ≤ W.heap.size) {row : Option Nat} (hg : W.grownBy W1 row) (hr : ∀ r, row = some r → w.heap.size ≤ r ∧ ∃ o : Obj, W.heap[r]? = some o ∧ o.isCells = false) : FtRow w W1 v A := by
  obtain ⟨vs, h1, h2⟩ := h.ex
  refine ⟨vs, h1.kept hg ?_, fun j p hj => (h2 j p hj).step hw hg (fun r e => ⟨(hr r e).1, fun cells hc => ?_⟩) (fun _ h => h)⟩
  · cases ho : v.ownBlock with
    | none => exact .inl rfl
    | some k =>
      refine .inr (fun e => ?_)
      obtain ⟨cells, hc⟩ := own_typed h1 k ho
      obtain ⟨o, h3, h4⟩ := (hr k e.symm).2
      rw [hc] at h3
      cases h3
      cases h4
  · obtain ⟨o, h3, h4⟩ := (hr r e).2
    rw [hc] at h3
    cases h3
    cases h4
theorem FtRow.below {w W W1 : World} {v : Value} {A : Found} (h : FtRow w W v A) (hw : w.heap.size ≤ W.heap.size) (hb : Below W.heap.size W W1) : FtRow w W1 v A :=
  h.kept hw (row := none) ⟨hb.os, hb.tape, hb.output, hb.size, fun k hk _ => hb.block k hk⟩ (fun _ e => by cases e)
theorem FtMap.below {b : Nat} {W W1 : World} {A : Found} (h : FtMap b W A) (hb : Below W.heap.size W W1) : FtMap b W1 A :=
  h.kept (row := none) ⟨hb.os, hb.tape, hb.output, hb.size, fun k hk _ => hb.block k hk⟩ (fun e => by cases e)
theorem FtRow.at {w W : World} {v : Value} {A : Found} (h : FtRow w W v A) {j : Nat} {p : List Int × Nat} (hj : A[j]? = some p) (hp : 0 < p.1.length) (hm : p.1.length ≤ 1000) : ∃ g cap ad c, v = .slice (some ⟨g, 0, none⟩) A.length cap ∧ A.length ≤ cap ∧ W.cell? ⟨g, j, none⟩ = some (.slice (some ad) p.1.length c) ∧ p.1.length ≤ c ∧ Kd.C (Kd.int .i64) W (some ad) p.1.length p.1 := by
  obtain ⟨vs, h1, h2⟩ := h.ex
  have hjl : j < A.length := (List.getElem?_eq_some_iff.1 hj).1
  obtain ⟨ad, c, e1, e2, e3, _⟩ := h2 j p hj
  rcases h1.2 with ⟨_, hz⟩ | ⟨g, cap, cur, rfl, hg, hh, q1, q2, q3, q4⟩
  · omega
  · refine ⟨g, cap, ad, c, rfl, q1, ?_, e2, Kd.C_of_reads (d := 0) ⟨rfl, by omega, fun _ => ⟨ad, rfl, fun i hi => e3 i hi⟩⟩⟩
    rw [blk_cell hh, ← Array.getElem?_toList]
    rw [Nat.mul_one] at q4
    rw [← q4, List.getElem?_take_of_lt hjl] at e1
    exact e1
theorem FtRow.form {w W : World} {v : Value} {A : Found} (h : FtRow w W v A) (hp : 0 < A.length) : ∃ g cap, v = .slice (some ⟨g, 0, none⟩) A.length cap := by
  obtain ⟨vs, h1, _⟩ := h.ex
  rcases h1.2 with ⟨_, hz⟩ | ⟨g, cap, cur, rfl, _⟩
  · omega
  · exact ⟨g, cap, rfl⟩
theorem FtRow.more {w W W1 : World} {v v1 : Value} {A : Found} {vs : List Value} {x : List Int} {t gn cn : Nat} {cur : Array Value} (h1 : W.ownsRow w.heap.size 22 1 v A.length vs) (h2 : ∀ j p, A[j]? = some p → RowAt w W vs j p.1) (hw : w.heap.size ≤ W.heap.size)
    (hn : W.heap[gn]? = some (.cells cur 3 (0, 0))) (hc : cur.toList.take x.length = x.map (Value.int .i64)) (hl : x.length ≤ cn)
    (hown : W1.ownsRow w.heap.size 22 1 v1 (A.length + 1) (vs ++ [.slice (some ⟨gn, 0, none⟩) x.length cn])) (hg : W.grownBy W1 v.ownBlock) : FtRow w W1 v1 (A ++ [(x, t)]) := by
  have hvl : vs.length = A.length := by have := h1.1; omega
  have hr : ∀ r, v.ownBlock = some r → w.heap.size ≤ r ∧ ∀ cells, W.heap[r]? ≠ some (.cells cells 3 (0, 0)) := fun r e => by
    obtain ⟨cells, hc⟩ := own_typed h1 r e
    refine ⟨?_, fun cells' hc' => ?_⟩
    · rcases h1.2 with ⟨rfl, _⟩ | ⟨g, cap, cur, rfl, hg', _⟩
      · simp [Value.ownBlock] at e
      · have : g = r := by simpa [Value.ownBlock] using e
        omega
    rw [hc] at hc'
    cases hc'
  refine ⟨_, by rw [List.length_append]; exact hown, fun j p hj => ?_⟩
  by_cases hjl : j < A.length
  · rw [List.getElem?_append_left hjl] at hj
    exact (h2 j p hj).step hw hg hr (fun u hu => by rw [List.getElem?_append_left (by omega)]; exact hu)
  · have hj2 : j = A.length := by
      have := (List.getElem?_eq_some_iff.1 hj).1
      rw [List.length_append] at this
      simp only [List.length_cons, List.length_nil] at this
      omega
    subst hj2
    rw [List.getElem?_append_right (Nat.le_refl _), Nat.sub_self] at hj
    simp only [List.getElem?_cons_zero, Option.some.injEq] at hj
    subst hj
    have hb : W1.heap[gn]? = W.heap[gn]? := hg.block gn (blk_lt hn) (fun e => (hr gn e.symm).2 cur hn)
    refine ⟨⟨gn, 0, none⟩, cn, by rw [← hvl, List.getElem?_append_right (Nat.le_refl _), Nat.sub_self]; rfl, hl, fun i hi => ?_, .inr ⟨cur, hb.trans hn⟩⟩
    have h3 : (⟨gn, 0, none⟩ : Addr).add i = ⟨gn, i, none⟩ := by
      unfold Addr.add
      split
      · rename_i h
        rw [h]
      · simp
    rw [h3, blk_cell (hb.trans hn), ← Array.getElem?_toList]
    have h4 : (cur.toList.take x.length)[i]? = (x.map (Value.int .i64))[i]? := by rw [hc]
    rw [List.getElem?_take_of_lt hi, List.getElem?_map, List.getElem?_eq_getElem hi] at h4
    rw [h4, List.getD_eq_getElem?_getD, List.getElem?_eq_getElem hi]
    rfl
theorem wp_insert {P : Program} (w : World) {ops : Array Oper} {rest : List Oper} {o : Oper} {a : Act} {Q : Exit → Act → World → Prop}
    (hg : o.guard = none) (m x v : Operand) (t : TypeId) (hop : o.op = Op.insert t m x v)
    (k e : TypeId) (K : Go.Maps.Keyed P k) (ht : P.underlying t = some (.map k e)) (R : Value → Option (DataW Unit × List MemPlace)) (b n : Nat) (D : DataW Unit)
    (hm : a.eval m = .map (some b)) (hown : w.ownsMap P k R b n D) (hn : n < maxLen) (key val : Value) (kl : Lit) (hx : a.eval x = key) (hv : a.eval v = val) (hkey : keyOf P k key = some kl)
    (d : DataW Unit) (ps : List MemPlace) (hval : R val = some (d, ps))
    (hK : ∀ w', w'.ownsMap P k R b (n + 1) (D.put kl d) → w.grownBy w' (some b) → wpList P ops Q rest (a.put o.dst undef) w') :
    wpList P ops Q (o :: rest) a w := by
  refine wpList_plain hg fun K' hK' => ?_
  obtain ⟨w', hrun, r1, r2⟩ := hown.update K ht hn hkey hval
  unfold Oper.wp
  simp [execOp, hop, hm, hx, hv, hrun, Result.andThen]
  exact hK' _ _ (hK w' r1 r2)
theorem ft_zero (w : World) : (zeroValue 3).run Tryd.prog w = .ok (.int .i64 0) w := by kernel_rfl
theorem ft_key {x : List Int} (h : x.length ≤ 1000) : keyOf Tryd.prog 9 (.string (keyB x)) = some (klOf x) :=
  Go.WideMaps.keyOf_string_mk Tryd.underlying9 (by show ((keyL x).toArray).size ≤ maxLen; unfold keyL maxLen; simp; omega)
theorem ft_wf2 {n : Int} (h : -9223372036854775808 ≤ n ∧ n ≤ 9223372036854775807) : (Lit.int .i64 n).wf = true := by
  have := wrap64_wf n
  rwa [show wrap64 n = n by unfold wrap64; omega] at this
theorem ft_ne {w : World} {base e size n b : Nat} {v : Value} {xs : List Value} (h : w.ownsRow base e size v n xs) (hb : ∃ o : Obj, w.heap[b]? = some o ∧ o.isCells = false) : some b ≠ v.ownBlock := fun k => by
  obtain ⟨cells, hc⟩ := own_typed h b k.symm
  obtain ⟨o, h1, h2⟩ := hb
  rw [hc] at h1
  cases h1
  cases h2
theorem int_data {a b : Int} (h : (DataW.lit (.int .i64 a) : DataW Unit) = .lit (.int .i64 b)) : a = b := by
  injection h with h
  injection h
set_option maxHeartbeats 8000000 in
set_option maxRecDepth 1000000 in
theorem impl_FewestTurns.calls (k : Nat) (A0 : Option Addr) (c0 : Nat) (l0 : List Int) (r1 : Int) (r2 : Bool) (w : World) (hr0 : Kd.C (Kd.int .i64) w A0 l0.length l0) (hc0 : l0.length ≤ c0) (hT_pow10 : Tab_pow10 w) (h : impl_FewestTurns.f k l0 = some (r1, r2)) :
  Calls Tryd.prog 6 #[.slice A0 l0.length c0] w fun e w' => e = .returned (.tuple #[.int .i64 r1, .bool r2]) ∧ Below w.heap.size w w' := by
  unfold impl_FewestTurns.f at h
  obtain ⟨b, hb, h⟩ := Option.bind_eq_some_iff.1 h
  have hO := impl_IsOrder.calls A0 c0 l0 b w hr0 hc0 hb
  cases b with
  | false =>
    rw [if_neg (by simp)] at h
    simp only [Option.some.injEq, Prod.mk.injEq] at h
    obtain ⟨rfl, rfl⟩ := h
    go_enter Tryd.func6, Tryd.ntmps6
    go_wp2_with (first | (go_at_call 12; refine hO.mono ?_; rintro e w1 ⟨rfl, hb1⟩) | fail)
    go_ret2
    exact ⟨rfl, hb1⟩
  | true =>
    rw [if_pos rfl] at h
    by_cases h7 : 7 < l0.length
    · rw [if_pos h7] at h
      simp only [Option.some.injEq, Prod.mk.injEq] at h
      obtain ⟨rfl, rfl⟩ := h
      have h7i : (7 : Int) < (l0.length : Int) := by omega
      go_enter Tryd.func6, Tryd.ntmps6
      go_wp2_with (first | (go_at_call 12; refine hO.mono ?_; rintro e w1 ⟨rfl, hb1⟩) | fail)
      go_ret2
      exact ⟨rfl, hb1⟩
    · rw [if_neg h7] at h
      obtain ⟨t, ht, h⟩ := Option.bind_eq_some_iff.1 h
      split at h
      rotate_left
      · cases h
      rename_i hok
      simp only [Option.some.injEq, Prod.mk.injEq] at h
      obtain ⟨rfl, rfl⟩ := h
      have h7i : ¬ (7 : Int) < (l0.length : Int) := by omega
      obtain ⟨rv, hrv⟩ : ∃ rv, lookF (finF l0.length l0) t = rv := ⟨_, rfl⟩
      rw [hrv]
      obtain ⟨gt, hgt⟩ := hok.goal
      have hkt := (hok.key _ hgt).2.2.1
      have hko : impl_joined.f k l0 ⟨#[]⟩ = some (keyB l0) := by
        obtain ⟨B, hB⟩ := fin_pre (n := l0.length) (o := l0) (i := 0) (by omega)
        exact (hok.key (l0, 0) (by rw [hB]; exact List.mem_append_left _ (List.mem_singleton_self _))).2.2.1
      obtain ⟨ad, rfl, hcell⟩ := (Kd.reads_of_C (d := (0 : Int)) hr0).2.2 hok.pos
      have HCELL := am hcell
      have HOK := am hok
      have HRV := am hrv
      have HGT := am hgt
      have HT := am hT_pow10
      have HC := am hr0
      clear hok hrv hgt hb h7 hr0 hT_pow10 hcell
      have hmm := @run_makeMap Tryd.prog
      go_enter Tryd.func6, Tryd.ntmps6
      go_wp2_with (first | (go_at_call 12; refine hO.mono ?_; rintro e w1 ⟨rfl, hb1⟩) | (go_at_call 14; refine (impl_right.calls k _ t _ ht).mono ?_; rintro e w2 ⟨v, rfl, hR, hb2⟩; obtain ⟨A1, c1, rfl⟩ := Kd.R_slice hR) | fail)
      have hT2 := (HT.out.below hb1).below hb2
      obtain ⟨_, hc1, hC1⟩ := Kd.R_reads' hR
      refine (impl_joined.calls k A1 c1 t ⟨#[]⟩ (keyB t) w2 hC1 hc1 hT2 hkt).mono ?_
      rintro e w3 ⟨rfl, hb3⟩
      go_wp2_with fail
      have hB3 : Below w.heap.size w w3 := below_step (below_step hb1 hb2) hb3
      have hBm : Below w.heap.size w (w3.alloc (.map #[] 0)) := below_alloc hB3 _
      refine (impl_joined.calls k (some ad) c0 l0 ⟨#[]⟩ (keyB l0) _ (Kd.C_below HC.out hBm) hc0 (HT.out.below hBm) hko).mono ?_
      rintro e w4 ⟨rfl, hb4⟩
      have hM4 : w4.ownsMap Tryd.prog 9 (plainElem (H := Unit) Tryd.prog 3) w3.heap.size 0 (.map []) := (World.ownsMap_made w3 _ _ _).kept (row := none) ⟨hb4.os, hb4.tape, hb4.output, hb4.size, fun k hk _ => hb4.block k hk⟩ (fun e => by cases e)
      have hB4 : Below w.heap.size w w4 := below_step hBm hb4
      have hmb : w.heap.size ≤ w3.heap.size := below_size hB3
      clear hb1 hb2 hb3 hb4 hBm hR hC1 hT2 hc1
      go_wp2_with (first | (refine wp_insert _ rfl _ _ _ 34 rfl 9 3 (Go.Maps.string_keyed Tryd.underlying9) Tryd.underlying34 _ w3.heap.size 0 _ rfl hM4 (by unfold maxLen; omega) _ _ _ rfl rfl (ft_key (by have := HOK.out.len; omega)) _ [] (plainElem_int Tryd.underlying3 (by decide)) ?_; intro w5 hM5 hg5) | fail)
      obtain ⟨n, hn⟩ : ∃ n, l0.length = n := ⟨_, rfl⟩
      have hn7 : n ≤ 7 := by have := HOK.out.len; omega
      have hnp : 0 < n := by have := HOK.out.pos; omega
      obtain ⟨i0, HE⟩ : ∃ i0, Aside0 ((stF n l0 i0).length ≤ i0 ∧ i0 ≤ 16777216 ∧ ∀ i, i < i0 → i < (stF n l0 i).length) := by
        obtain ⟨i0, e1, e2, e3⟩ := HOK.out.stop
        rw [hn] at e1 e3
        exact ⟨i0, ⟨e1, e2, e3⟩⟩
      have hB6 : Below w.heap.size w (w5.alloc (.cells #[.slice (some ad) l0.length c0] 22)) := below_alloc (Below.grown hB4 hg5 (below_size hB4) (fun k e => by injection e with e; subst e; exact hmb)) _
      have hw5 : w.heap.size ≤ w5.heap.size := Nat.le_trans (below_size hB4) hg5.size
      have HR0 : Aside0 (FtRow w (w5.alloc (.cells #[.slice (some ad) l0.length c0] 22)) (.slice (some ⟨w5.heap.size, 0, none⟩) 1 1) (stF n l0 0)) := by
        refine ⟨⟨[.slice (some ad) l0.length c0], ⟨rfl, .inr ⟨w5.heap.size, 1, _, rfl, hw5, blk_new _ _, Nat.le_refl _, by unfold maxLen; omega, rfl, rfl⟩⟩, fun j p hj => ?_⟩⟩
        have hj0 : j = 0 := by
          have h1 : j < 1 := (List.getElem?_eq_some_iff.1 hj).1
          omega
        subst hj0
        have hp : p = (l0, 0) := by
          have h1 : some (l0, 0) = some p := hj
          exact (Option.some.inj h1).symm
        subst hp
        refine ⟨ad, c0, rfl, hc0, fun i hi => ?_, .inl ?_⟩
        · have h1 := HCELL.out i hi
          exact (hB6.cell (World.block_lt_of_cell? _ _ h1)).trans h1
        · have h1 := World.block_lt_of_cell? _ _ (HCELL.out 0 (by omega))
          rw [ad_block] at h1
          exact h1
      have HM0 : Aside0 (FtMap w3.heap.size (w5.alloc (.cells #[.slice (some ad) l0.length c0] 22)) (stF n l0 0)) := by
        refine ⟨⟨1, _, hM5.alloc _, Nat.le_refl _, RepF.nil.put (x := l0) ?_ rfl 0⟩⟩
        obtain ⟨B, hB⟩ := fin_pre (n := l0.length) (o := l0) (i := 0) (by omega)
        exact (HOK.out.key (l0, 0) (by rw [hB]; exact List.mem_append_left _ (List.mem_singleton_self _))).2.1
      have HB0 := am hB6
      have HMB := am hmb
      clear hB6 hM5 hg5 hM4 hB4 hB3 hw5 hmb hO ht hko
      generalize w3.heap.size = b at HM0 HMB ⊢
      generalize w5.alloc (.cells #[.slice (some ad) l0.length c0] 22) = W6 at HR0 HM0 HB0 ⊢
      generalize (Value.slice (some ⟨w5.heap.size, 0, none⟩) 1 1) = v6 at HR0 ⊢
      rw [hn]
      go_loopg [6, 7] (i0 + 1) (fun gf s6 s7 wx => ∃ i : Nat, s7 = .int .i64 (i : Int) ∧ Aside0 (i ≤ i0 ∧ i0 + 1 ≤ gf + i) ∧ Aside0 (FtRow w wx s6 (stF n l0 i)) ∧ Aside0 (FtMap b wx (stF n l0 i)) ∧ Aside0 (Below w.heap.size w wx))
      case atStart => exact ⟨0, rfl, ⟨by omega⟩, HR0, HM0, HB0⟩
      case round =>
        clear HR0 HM0 HB0
        obtain ⟨i, rfl, HI, HR, HM, HB⟩ := hrel
        by_cases hlt : i < (stF n l0 i).length
        · obtain ⟨p, hp⟩ : ∃ p, (stF n l0 i)[i]? = some p := ⟨_, List.getElem?_eq_getElem hlt⟩
          obtain ⟨FC, hFC⟩ : ∃ C, finF n l0 = stF n l0 i ++ C := fin_pre (by have := HI.out.1; have := HE.out.2.1; omega)
          have hpF : p ∈ finF l0.length l0 := by rw [hn, hFC]; exact List.mem_append_left _ (List.mem_of_getElem? hp)
          obtain ⟨k1, k2, k3, k4⟩ := HOK.out.key p hpF
          have hT6 := HT.out.below HB.out
          obtain ⟨g, cap, ad1, cc1, rfl, hcap, hcl, hpc, hCp⟩ := HR.out.at hp (by omega) (by omega)
          obtain ⟨mm, D, hown, hmD, hrep⟩ := HM.out.ex
          have hval := hrep.val p.1 p.2 k2 (List.mem_of_getElem? hp)
          have hS1 : scanF p.1 p.2 (n + 1 - 2) 2 (stF n l0 i) = stF n l0 (i + 1) := (stF_at hp).symm
          have hi16 : i < 16777216 ∧ i + 1 ≤ i0 := by
            have h1 := HI.out.1
            have h2 := HE.out.1
            have h3 := HE.out.2.1
            rcases Nat.lt_or_ge i i0 with h | h
            · omega
            · obtain rfl : i = i0 := by omega
              omega
          have hlti : (i : Int) < ((stF n l0 i).length : Int) := by omega
          have hFS1 : ∃ C, finF n l0 = stF n l0 (i + 1) ++ C := fin_pre (by show i + 1 ≤ 16777216; have := hi16.1; omega)
          have HS1 := am hS1
          have HFS := am hFS1
          have HP := am hp
          have HK := am (And.intro hpF (And.intro k1 (And.intro k2 k4)))
          generalize hS1e : stF n l0 (i + 1) = S1 at HS1 HFS
          have HS1E := am hS1e
          clear hS1e
          obtain ⟨gO, rfl⟩ : ∃ gO, gk = gO + 1 := ⟨gk - 1, by have := HI.out; omega⟩
          generalize stF n l0 i = A at HR HM HP hcl hcap hlti hmD hrep HS1 ⊢
          clear hFC hp hpF k1 k4 hS1 hFS1 hlt
          obtain ⟨x, tt⟩ := p
          dsimp only at *
          have hJ0 := impl_joined.calls k (some ad1) cc1 x ⟨#[]⟩ (keyB x) wr hCp hpc hT6 k3
          rw [show x.length = n from HK.out.2.1.trans hn] at hJ0 hcl
          go_wp2_with fail
          refine hJ0.mono ?_
          rintro e w7 ⟨rfl, hb7⟩
          have hown7 := hown.kept (row := none) (w' := w7) ⟨hb7.os, hb7.tape, hb7.output, hb7.size, fun k hk _ => hb7.block k hk⟩ (fun e => by cases e)
          have HR7 := am (HR.out.below (below_size HB.out) hb7)
          have HM7 := am (HM.out.below hb7)
          have HB7 := am (below_step HB.out hb7)
          clear HR HM HB hown hcl hCp hT6 hb7 hJ0 hpc
          go_wp2_with (first | (at_lookup; refine wpList_lookup_own_int _ rfl _ _ 34 rfl 9 3 .i64 (Go.Maps.string_keyed Tryd.underlying9) Tryd.underlying34 Tryd.underlying3 (ft_zero _) b mm D rfl hown7 _ _ rfl (ft_key (by have := HK.out.2.1; omega)) ?_; intro c hat hwc; obtain rfl := int_data (hat.symm.trans hval)) | fail)
          clear hown7 hmD hrep hval k3
          generalize (Value.slice (some ⟨g, 0, none⟩) A.length cap) = va at HR7 ⊢
          go_loopg [6, 9] n (fun gf s6 s9 wx => ∃ (m : Nat) (Ac : Found), s9 = .int .i64 (m : Int) ∧ Aside0 (2 ≤ m ∧ m ≤ n + 1 ∧ n + 1 ≤ gf + m) ∧ Aside0 (scanF x tt (n + 1 - m) m Ac = S1) ∧ Aside0 (Ac[i]? = some (x, tt)) ∧ Aside0 (FtRow w wx s6 Ac) ∧ Aside0 (FtMap b wx Ac) ∧ Aside0 (Below w.heap.size w wx))
          case atStart => exact ⟨2, A, rfl, ⟨by omega⟩, HS1, HP, HR7, HM7, HB7⟩
          case round =>
            clear HR7 HM7 HB7 HS1 HP
            obtain ⟨m, Ac, rfl, HMM, HS2, HP2, HR, HM, HB⟩ := hrel
            by_cases hmn : m ≤ n
            · obtain ⟨g', rfl⟩ : ∃ g', gk = g' + 1 := ⟨gk - 1, by have := HMM.out; omega⟩
              have hmi : (m : Int) ≤ (n : Int) := by omega
              obtain ⟨FB, hFB, _⟩ := scanF_pre x tt (n + 1 - m) m Ac
              obtain ⟨FC, hFC⟩ := HFS.out
              rw [← HS2.out, hFB, List.append_assoc] at hFC
              obtain ⟨hxF, hxl, hxd, htt⟩ := HK.out
              try dsimp only at hxl hxd htt
              have hm2 := HMM.out
              obtain ⟨s', hs'⟩ := HOK.out.closed _ hxF m hm2.1 (by omega)
              obtain ⟨q1, q2, q3, _⟩ := HOK.out.key _ hs'
              try dsimp only at hs' q1 q2 q3
              obtain ⟨g, cap, ad2, cc2, rfl, hcap, hcl, hpc, hCp⟩ := HR.out.at HP2.out (by dsimp only; omega) (by dsimp only; omega)
              try dsimp only at hcl hpc hCp
              have hlen : Ac.length ≤ 16777216 := by
                have h1 := congrArg List.length hFC
                rw [List.length_append] at h1
                have h2 := finF_eq (n := n) (o := l0) HE.out.1 HE.out.2.1
                have h3 := HE.out.1
                have h4 := HE.out.2.1
                rw [h2] at h1
                omega
              have hil : i < Ac.length := (List.getElem?_eq_some_iff.1 HP2.out).1
              have hili : (i : Int) < (Ac.length : Int) := by omega
              have hS2 := HS2.out
              rw [show n + 1 - m = (n - m) + 1 by omega, scanF] at hS2
              have HS3 := am hS2
              have HLEN := am hlen
              clear hS2 hFB hFC hlen
              have hxn : x.length = n := hxl.trans hn
              have hTF := impl_turnedFront.calls (some ad2) cc2 x m wr hCp hpc (by omega) (by omega) (by omega)
              rw [hxn] at hTF hcl
              have hyn : (turnL x m).length = n := q1.trans hn
              have HR1 := HR
              have hbw := below_size HB.out
              clear hCp hpc
              go_wp2_with fail
              refine hTF.mono ?_
              rintro e w8 ⟨gn, cn, rfl, hcn, hgn, ⟨cur, hcur, hct⟩, hb8⟩
              have hcur8 := hcur
              have hCy : Kd.C (Kd.int .i64) w8 (some ⟨gn, 0, none⟩) (turnL x m).length (turnL x m) := by
                refine Kd.C_of_reads (d := 0) ⟨rfl, by omega, fun _ => ⟨_, rfl, fun j hj => ?_⟩⟩
                have h3 : (⟨gn, 0, none⟩ : Addr).add j = ⟨gn, j, none⟩ := by
                  unfold Addr.add
                  split
                  · rename_i h
                    rw [h]
                  · simp
                rw [h3, blk_cell hcur, ← Array.getElem?_toList]
                have h4 : (cur.toList.take n)[j]? = ((turnL x m).map (Value.int .i64))[j]? := by rw [hct]
                rw [List.getElem?_take_of_lt (by omega), List.getElem?_map, List.getElem?_eq_getElem hj] at h4
                rw [h4, List.getD_eq_getElem?_getD, List.getElem?_eq_getElem hj]
                rfl
              have hJ := impl_joined.calls k (some ⟨gn, 0, none⟩) cn (turnL x m) ⟨#[]⟩ (keyB (turnL x m)) w8 hCy (by omega) (HT.out.below (below_step HB.out hb8)) q3
              rw [hyn] at hJ
              have HR8 := HR.out.below hbw hb8
              have HM8 := HM.out.below hb8
              have HB8 := below_step HB.out hb8
              clear HR HR1 HM HB hCy hTF hcl q3
              go_wp2_with fail
              refine hJ.mono ?_
              rintro e w9 ⟨rfl, hb9⟩
              have HR9 := HR8.below (below_size HB8) hb9
              have HM9 := HM8.below hb9
              have HB9 := am (below_step HB8 hb9)
              have hcur9 := blk_below hcur8 hb9
              clear HR8 HM8 HB8 hJ hb8 hb9 hcur hcur8
              obtain ⟨mm, D, hown, hmD, hrep⟩ := HM9.ex
              have hhas := hrep.has _ q2
              generalize hyy : turnL x m = y at *
              cases hk : hasK Ac y with
              | true =>
                rw [hk] at hhas
                go_wp2_with (first | (at_lookup; go_loud (refine wpList_lookup_own_ok_int _ rfl _ _ 34 rfl 9 3 .i64 (Go.Maps.string_keyed Tryd.underlying9) Tryd.underlying34 Tryd.underlying3 (ft_zero _) b mm D rfl hown _ _ rfl (ft_key (by omega)) ?_); intro c hat hwc; rw [hhas]) | fail)
                have hadd : addF Ac y (tt + 1) = Ac := by unfold addF; rw [if_pos hk]
                go_roundg g'
                case measure => omega
                case rel => exact ⟨m + 1, Ac, by go_num, ⟨by have := HMM.out; omega⟩, ⟨by rw [show n + 1 - (m + 1) = n - m by omega]; have := HS3.out; rw [hadd] at this; exact this⟩, HP2, ⟨HR9⟩, ⟨HM9⟩, HB9⟩
              | false =>
                rw [hk] at hhas
                have hadd : addF Ac y (tt + 1) = Ac ++ [(y, tt + 1)] := by unfold addF; rw [if_neg (by rw [hk]; decide)]
                obtain ⟨vs, hv1, hv2⟩ := HR9.ex
                have hobj := HM9.obj
                have hlen := HLEN.out
                have htt2 : (tt : Int) ≤ 16777216 := by have : tt ≤ 16777216 := htt; omega
                have hwr : IntKind.i64.wrap ((tt : Int) + 1) = (tt : Int) + 1 := by rw [i64_w]; unfold wrap64; omega
                have hbw9 := below_size HB9.out
                go_wp2_with (first
                  | (at_lookup; refine wpList_lookup_own_ok_int _ rfl _ _ 34 rfl 9 3 .i64 (Go.Maps.string_keyed Tryd.underlying9) Tryd.underlying34 Tryd.underlying3 (ft_zero _) b mm D rfl hown _ _ rfl (ft_key (by omega)) ?_; intro c hat hwc; rw [hhas])
                  | (at_builtin; refine print_append_cells (w0 := w) w.heap.size rfl (.tmp 71) (.tmp 73) 30 22 (.slice none 0 0) 1 24 rfl Tryd.underlying30 info22 rfl (by decide) (by decide) _ Ac.length vs [.slice (some ⟨gn, 0, none⟩) n cn] rfl rfl rfl (by simp [Value.oneCell']) hv1 HB9.out hbw9 (by omega) ?_; intro v1 w10 hown1 hb10 hg10 hat10; have hownM := hown.kept hg10 (ft_ne hv1 hobj))
                  | (at_mapUpdate; go_loud (refine wpList_mapUpdate_own _ rfl _ _ _ 34 rfl 9 3 (Go.Maps.string_keyed Tryd.underlying9) Tryd.underlying34 _ b mm _ rfl hownM (by unfold maxLen; omega) _ _ _ rfl rfl (ft_key (by omega)) _ [] (plainElem_int Tryd.underlying3 (ft_wf2 ⟨by omega, by omega⟩)) ?_); intro w11 hown11 hg11)
                  | fail)
                have hobj10 : ∃ o : Obj, w10.heap[b]? = some o ∧ o.isCells = false := by
                  obtain ⟨es, cl, hq, _⟩ := hownM
                  exact ⟨_, hq, rfl⟩
                have hrow10 : FtRow w w10 v1 (Ac ++ [(y, tt + 1)]) := FtRow.more (t := tt + 1) hv1 hv2 hbw9 hcur9 (by rw [hyn]; exact hct) (by rw [hyn]; exact hcn) (by rw [hyn]; exact hown1) hg10
                have hrow11 := hrow10.kept (below_size hb10) hg11 (fun r e => by injection e with e; subst e; exact ⟨HMB.out, hobj10⟩)
                have hB11 := Below.grown hb10 hg11 (below_size hb10) (fun k e => by injection e with e; subst e; exact HMB.out)
                have hmap11 : FtMap b w11 (Ac ++ [(y, tt + 1)]) := ⟨⟨mm + 1, _, hown11, by rw [List.length_append]; exact Nat.add_le_add_right hmD 1, hrep.put q2 hk (tt + 1)⟩⟩
                go_roundg g'
                case measure => omega
                case rel => exact ⟨m + 1, Ac ++ [(y, tt + 1)], by go_num, ⟨by have := HMM.out; omega⟩, ⟨by rw [show n + 1 - (m + 1) = n - m by omega]; have := HS3.out; rw [hadd] at this; exact this⟩, ⟨by rw [List.getElem?_append_left hil]; exact HP2.out⟩, ⟨hrow11⟩, ⟨hmap11⟩, ⟨hB11⟩⟩
            · have hmi : ¬ (m : Int) ≤ (n : Int) := by omega
              have hAc : Ac = S1 := by
                have h1 := HS2.out
                rw [show n + 1 - m = 0 by have := HMM.out; omega] at h1
                exact h1
              subst hAc
              go_wp2_with fail
              go_roundg gO
              case measure => omega
              case rel =>
                refine ⟨i + 1, by go_num, ⟨by have := HI.out; omega⟩, ?_, ?_, HB⟩
                · rw [HS1E.out]; exact HR
                · rw [HS1E.out]; exact HM
        · have hlti : ¬ (i : Int) < ((stF n l0 i).length : Int) := by omega
          have hfin : finF n l0 = stF n l0 i := finF_eq (by omega) (by have := HI.out.1; have := HE.out.2.1; show i ≤ 16777216; omega)
          have HFin := am hfin
          clear hfin
          obtain ⟨s0, HS0⟩ : ∃ s0, Aside0 ((t, s0) ∈ stF n l0 i) := ⟨gt, ⟨by have h1 := HGT.out; rw [hn] at h1; rw [← HFin.out]; exact h1⟩⟩
          have hrs : rv = s0 := by
            have h1 := lookF_at HOK.out.once (x := t) (t := s0) (by rw [hn, HFin.out]; exact HS0.out)
            exact HRV.out.symm.trans h1
          subst hrs
          have hdt := (HOK.out.key _ HGT.out).2.1
          have hpos : 0 < (stF n l0 i).length := List.length_pos_of_mem HS0.out
          obtain ⟨g, cap, rfl⟩ := HR.out.form hpos
          obtain ⟨mm, D, hown, hmD, hrep⟩ := HM.out.ex
          have hval := hrep.val t rv hdt HS0.out
          have htl : t.length ≤ 1000 := by
            have h1 := (HOK.out.key _ HGT.out).1
            dsimp only at h1
            omega
          clear hrep hdt HS0 HR HM
          go_wp2_with (first | (at_lookup; refine wpList_lookup_own_int _ rfl _ _ 34 rfl 9 3 .i64 (Go.Maps.string_keyed Tryd.underlying9) Tryd.underlying34 Tryd.underlying3 (ft_zero _) b mm D rfl hown _ _ rfl (ft_key htl) ?_; intro c hat hwc; obtain rfl := int_data (hat.symm.trans hval)) | fail)
          go_ret2
          exact ⟨rfl, HB.out⟩
end Go.Proofs.YtfegbmlcbdjcgaaDoor.X
end
