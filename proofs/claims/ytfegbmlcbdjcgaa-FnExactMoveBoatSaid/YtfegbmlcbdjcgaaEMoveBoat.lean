/- MoveBoat: a boat is taken out of a copy and put in elsewhere. -/
--! fn impl.MoveBoat|impl_MoveBoat|rounds|making
--! uses impl.arePlaces; slices.Clone[[]int,int]
--! lay mvDel := shelf_lay Lays2.n23 Nm2 23 at Try
--! lay mvIns := shelf_lay Lays2.n21 Nm2 21 at Try
--! laymod Derived.Shelf.Slices.Delete Derived.Shelf.Spec.SlicesInsert Derived.Ground.Names2Prog
import Derived.Test.YtfegbmlcbdjcgaaX0
import Derived.Test.YtfegbmlcbdjcgaaSh
import Derived.Test.YtfegbmlcbdjcgaaX4
import Derived.Shelf.Slices.Delete
import Derived.Shelf.Spec.SlicesInsert
import Derived.Sort.OwnSortedInts
import Derived.Deep.RegionHeld3
import Derived.Deep.RegionLaw
namespace Go.Proofs.Ytfegbmlcbdjcgaa.X
open Go.Proofs.Ytfegbmlcbdjcgaa.Sq Go.RowKit Go.Proofs.YtfegbmlcbdjcgaaW.PrintWords Go.Proofs.YtfegbmlcbdjcgaaW.PrintLast Go.Proofs.YtfegbmlcbdjcgaaW.PrintMore
attribute [local go_sem] max2_int min2_int max_two min_two max_three min_three max_four min_four   -- for this text's walks alone
set_option linter.unusedVariables false
set_option linter.unusedSimpArgs false

def mvd (l : List Int) (a b : Nat) : List Int := (l.eraseIdx a).take b ++ (l.getD a 0 :: (l.eraseIdx a).drop b)
def impl_MoveBoat.f (k : Nat) (l0 : List Int) (a1 a2 : Int) : Option (List Int × Bool) := (impl_arePlaces.f k l0 [a1, a2]).bind fun t => (if t = true then (if 0 ≤ a1 ∧ a1 < (l0.length : Int) ∧ 0 ≤ a2 ∧ a2 < (l0.length : Int) ∧ l0.length ≤ 1000 then some (mvd l0 a1.toNat a2.toNat, true) else none) else some ([], false))
theorem impl_MoveBoat.mono : ∀ a0 a1 a2 k, LeO (impl_MoveBoat.f k a0 a1 a2) (impl_MoveBoat.f (k + 1) a0 a1 a2) := fun a0 a1 a2 k => by
  unfold impl_MoveBoat.f
  exact LeO.bind (impl_arePlaces.mono _ _ _) (fun _ => LeO.refl _)
/-- Block g's first cells hold xs, and it has c cells. -/
structure MvR (W : World) (g c : Nat) (xs : List Int) : Prop where
  len : xs.length ≤ c
  max : c ≤ 9223372036854775807
  row : ∃ cur : Array Value, W.heap[g]? = some (.cells cur 3 (0, 0)) ∧ cur.size = c ∧ cur.toList.take xs.length = xs.map (Value.int .i64)
theorem MvR.of_R {W : World} {base : Nat} {ok : Nat → Prop} {v : Value} {xs : List Int} (h : Kd.R (Kd.int .i64) 3 W base ok v xs) (hn : 0 < xs.length) : ∃ g c, v = .slice (some ⟨g, 0, none⟩) xs.length c ∧ base ≤ g ∧ g < W.heap.size ∧ MvR W g c xs := by
  have ho := Kd.own_of_R h
  rcases ho.2 with ⟨_, h0⟩ | ⟨g, cap, cur, hv, hb, hh, h1, h2, h3, h4⟩
  · omega
  · exact ⟨g, cap, hv, hb, blk_lt hh, h1, h2, cur, hh, by omega, by rw [Nat.mul_one] at h4; exact h4⟩
theorem MvR.to_R {W : World} {base g c : Nat} {xs : List Int} (h : MvR W g c xs) (hb : base ≤ g) : Kd.R (Kd.int .i64) 3 W base (fun _ => True) (.slice (some ⟨g, 0, none⟩) xs.length c) xs := by
  obtain ⟨h1, h2, cur, hh, hs, ht⟩ := h
  exact Kd.R_of_own ⟨by simp [encs], .inr ⟨g, c, cur, rfl, hb, hh, h1, h2, by omega, by rw [Nat.mul_one]; exact ht⟩⟩ (fun _ _ => trivial)
theorem MvR.keep {W W1 : World} {g c : Nat} {xs : List Int} (h : MvR W g c xs) (hk : W1.heap[g]? = W.heap[g]?) : MvR W1 g c xs := ⟨h.len, h.max, by rw [hk]; exact h.row⟩
theorem mv_delete {W : World} {g c : Nat} {xs : List Int} (h : MvR W g c xs) (i : Nat) (hi : i < xs.length) :
    Calls Try.prog 48 #[.slice (some ⟨g, 0, none⟩) xs.length c, .int .i64 i, .int .i64 ((i : Int) + 1)] W fun e w' => e = .returned (.slice (some ⟨g, 0, none⟩) (xs.eraseIdx i).length c) ∧ MvR w' g c (xs.eraseIdx i) ∧ W.grownBy w' (some g) := by
  obtain ⟨h1, h2, cur, hh, hs, ht⟩ := h
  have hd := Any.slices_Delete_int mvDel g 0 c i (i + 1) xs W (holds_of_blockI hh ht) h1 h2 (by omega) (by omega)
  simp only [Int.natCast_add, Int.natCast_one] at hd
  refine hd.mono ?_
  rintro e w' ⟨rfl, q, rfl⟩
  have hl : (xs.eraseIdx i).length = xs.length - 1 := by rw [List.length_eraseIdx_of_lt hi]
  have he : xs.take i ++ xs.drop (i + 1) ++ List.replicate (i + 1 - i) 0 = xs.eraseIdx i ++ [0] := by
    rw [List.eraseIdx_eq_take_drop_succ, show i + 1 - i = 1 by omega]
    rfl
  rw [he]
  have hL : (xs.eraseIdx i ++ [(0 : Int)]).length = xs.length := by rw [List.length_append, hl]; simp; omega
  have hT := take_putCellsI cur (xs.eraseIdx i ++ [0]) (by rw [hL]; omega)
  have hG : W.grownBy (Go.Sort.putRow (Value.int .i64) (Go.Sort.ahead W q) g 0 (xs.eraseIdx i ++ [0]).toArray) (some g) := by
    have := grownBy_sortedI (w := W) (g := g) (n := q) (os := #[]) (xs.eraseIdx i ++ [0]).toArray
    rwa [Go.Sort.grow_empty] at this
  have hH := heap_sortedI (w := W) (g := g) (n := q) (os := #[]) (xs.eraseIdx i ++ [0]).toArray hh
  rw [Go.Sort.grow_empty] at hH
  refine ⟨by rw [hl, show i + 1 - i = 1 by omega], ⟨by omega, h2, _, hH, by simp [Go.Sort.putCells, hs], ?_⟩, hG⟩
  have := congrArg (List.take (xs.eraseIdx i).length) hT
  rw [List.take_take, Nat.min_eq_left (by rw [hL, hl]; omega), List.map_append, List.take_left' (by simp)] at this
  exact this
theorem mv_insert {W : World} {g c gb : Nat} {xs : List Int} {x : Int} (h : MvR W g c xs) (hc : xs.length + 1 ≤ c) (hx : W.heap[gb]? = some (.cells #[.int .i64 x] 3 (0, 0))) (hne : gb ≠ g) (i : Nat) (hi : i ≤ xs.length) :
    Calls Try.prog 47 #[.slice (some ⟨g, 0, none⟩) xs.length c, .int .i64 i, .slice (some ⟨gb, 0, none⟩) 1 1] W fun e w' => e = .returned (.slice (some ⟨g, 0, none⟩) (xs.take i ++ x :: xs.drop i).length c) ∧ MvR w' g c (xs.take i ++ x :: xs.drop i) ∧ W.grownBy w' (some g) := by
  obtain ⟨h1, h2, cur, hh, hs, ht⟩ := h
  have hlen : (xs.take i ++ x :: xs.drop i).length = xs.length + 1 := by simp; omega
  have hcl : cur.toList.length = c := by simpa using hs
  have hvs : ∀ j v, [Value.int .i64 x][j]? = some v → W.cell? ⟨gb, 0 + j, none⟩ = some v := fun j v hj => by
    cases j with
    | succ j => simp at hj
    | zero => rw [blk_cell hx]; simpa using hj
  have hcell : ∀ j, W.cell? ⟨g, j, none⟩ = cur[j]? := fun j => blk_cell hh j
  have hfz : ∀ j, W.frozen? ⟨g, j, none⟩ = false := fun j => blk_frozen hh j
  have hcx : ∀ j, j < xs.length → cur.toList[j]? = (xs.map (Value.int .i64))[j]? := fun j hj => by rw [← ht, List.getElem?_take_of_lt hj]
  by_cases hlt : i < xs.length
  · refine (Any2.slices_Insert_int_shift mvIns g 0 xs.length c i gb 0 1 1 (xs.map (Value.int .i64)) [.int .i64 x] W hlt (by omega) hc h2 hne (by simp) rfl ?_ ?_ ?_ hvs ?_ ?_ 3 3 1 c ?_ ?_ ?_ (blk_frozen hx 0) (blk_frozen hx 1)).mono ?_
    · intro j v hj
      rw [Nat.zero_add, hcell, ← Array.getElem?_toList]
      have hj' : j < xs.length := by
        have := (List.getElem?_eq_some_iff.1 hj).1
        simpa using this
      rw [hcx j hj']
      exact hj
    · intro j hj
      rw [Nat.zero_add, hcell]
      simp
      omega
    · intro j _
      exact hfz _
    · intro v hv
      obtain ⟨y, _, rfl⟩ := List.mem_map.1 hv
      rfl
    · intro v hv
      simp at hv
      subst hv
      rfl
    · simp [World.shape?, hx]
    · simp [World.shape?, hh, hs]
    · omega
    · rintro e w' ⟨rfl, rfl⟩
      have hhd : W.drew.heap[g]? = some (.cells cur 3 (0, 0)) := hh
      obtain ⟨cur1, hc1, hs1, ht1⟩ := setCells_row ((xs.map (Value.int .i64)).drop i) (0 + (i + 1)) W.drew cur hhd (by simp; omega)
      obtain ⟨cur2, hc2, hs2, ht2⟩ := setCells_row [.int .i64 x] (0 + i) _ cur1 hc1 (by simp; omega)
      obtain ⟨s1, s2, s3, s4⟩ := setCells_same g ((xs.map (Value.int .i64)).drop i) (0 + (i + 1)) W.drew
      obtain ⟨q1, q2, q3, q4⟩ := setCells_same g [.int .i64 x] (0 + i) (W.drew.setCells g (0 + (i + 1)) ((xs.map (Value.int .i64)).drop i))
      refine ⟨by rw [hlen], ⟨by omega, h2, cur2, hc2, by omega, ?_⟩, ⟨q1.trans s1, q2.trans s2, q3.trans s3, by rw [q4, s4]; exact Nat.le_refl _, fun k hk hkg => ?_⟩⟩
      · rw [ht2, ht1, hlen]
        simp only [Nat.zero_add, List.length_singleton]
        have ha : cur.toList.take i = (xs.take i).map (Value.int .i64) := by
          rw [List.map_take, ← ht, List.take_take, Nat.min_eq_left (by omega)]
        have hi1 : (cur.toList.take (i + 1)).length = i + 1 := by rw [List.length_take, hcl]; omega
        have e1 : List.take i (cur.toList.take (i + 1) ++ (xs.map (Value.int .i64)).drop i ++ cur.toList.drop (i + 1 + ((xs.map (Value.int .i64)).drop i).length)) = (xs.take i).map (Value.int .i64) := by
          rw [List.append_assoc, List.take_append_of_le_length (by omega), List.take_take, Nat.min_eq_left (by omega), ha]
        have e2 : List.drop (i + 1) (cur.toList.take (i + 1) ++ (xs.map (Value.int .i64)).drop i ++ cur.toList.drop (i + 1 + ((xs.map (Value.int .i64)).drop i).length)) = (xs.map (Value.int .i64)).drop i ++ cur.toList.drop (i + 1 + ((xs.map (Value.int .i64)).drop i).length) := by
          rw [List.append_assoc, List.drop_left' hi1]
        rw [e1, e2, ← List.append_assoc, List.take_left' (by simp; omega)]
        simp
      · rw [setCells_far _ _ _ (fun e => hkg (by rw [e])), setCells_far _ _ _ (fun e => hkg (by rw [e]))]
        rfl
  · have hie : i = xs.length := by omega
    subst hie
    refine (Any2.slices_Insert_int_end_room mvIns g 0 xs.length c gb 0 1 1 [.int .i64 x] W (by omega) hc h2 rfl ?_ ?_ hvs ?_).mono ?_
    · intro j hj
      rw [hcell]
      simp
      omega
    · intro j _
      exact hfz _
    · intro v hv
      simp at hv
      subst hv
      rfl
    · rintro e w' ⟨rfl, rfl⟩
      obtain ⟨cur2, hc2, hs2, ht2⟩ := setCells_row [.int .i64 x] (0 + xs.length) W cur hh (by simp; omega)
      obtain ⟨q1, q2, q3, q4⟩ := setCells_same g [.int .i64 x] (0 + xs.length) W
      refine ⟨by rw [hlen], ⟨by omega, h2, cur2, hc2, by omega, ?_⟩, ⟨q1, q2, q3, by rw [q4]; exact Nat.le_refl _, fun k hk hkg => setCells_far _ _ _ (fun e => hkg (by rw [e]))⟩⟩
      rw [ht2, hlen, Nat.zero_add, ht, List.take_left' (by simp)]
      simp
theorem mv_new {w w1 : World} {x : Int} (hb : Below (w.alloc (.cells #[.int .i64 x] 3)).drew.heap.size (w.alloc (.cells #[.int .i64 x] 3)).drew w1) : w1.heap[w.heap.size]? = some (.cells #[.int .i64 x] 3 (0, 0)) :=
  blk_below (w := (w.alloc (.cells #[.int .i64 x] 3)).drew) (blk_new w _) hb
theorem mv_newlt {w : World} {o : Obj} {g : Nat} (h : (w.alloc o).drew.heap.size ≤ g) : w.heap.size ≠ g := by
  have h2 : w.heap.size < (w.alloc o).drew.heap.size := blk_lt (w := (w.alloc o).drew) (blk_new w o)
  omega
theorem MvR.lt {W : World} {g c : Nat} {xs : List Int} (h : MvR W g c xs) : g < W.heap.size := by
  obtain ⟨cur, hh, _⟩ := h.row
  exact blk_lt hh
theorem mv_kept {Y w4 : World} {g b : Nat} {o : Obj} (hg : Y.grownBy w4 (some g)) (h : Y.heap[b]? = some o) (hn : b ≠ g) : w4.heap[b]? = some o :=
  (hg.block b (blk_lt h) (fun e => hn (Option.some.inj e))).trans h
theorem mv_ne {n g : Nat} (h : g < n) : n ≠ g := by omega
theorem mv_insert2 {W : World} {g c gb n m : Nat} {xs : List Int} {x : Int} (h : MvR W g c xs) (hn : xs.length = n) (hm : n + 1 = m) (hc : m ≤ c) (hx : W.heap[gb]? = some (.cells #[.int .i64 x] 3 (0, 0))) (hne : gb ≠ g) (i : Nat) (hi : i ≤ xs.length) :
    Calls Try.prog 47 #[.slice (some ⟨g, 0, none⟩) n c, .int .i64 i, .slice (some ⟨gb, 0, none⟩) 1 1] W fun e w' => e = .returned (.slice (some ⟨g, 0, none⟩) m c) ∧ MvR w' g c (xs.take i ++ x :: xs.drop i) ∧ W.grownBy w' (some g) := by
  subst hn hm
  have h2 := mv_insert h hc hx hne i hi
  rw [show (xs.take i ++ x :: xs.drop i).length = xs.length + 1 by simp; omega] at h2
  exact h2
theorem mv_two (w : World) (a b : Int) : Kd.C (Kd.int .i64) (w.alloc (.cells #[.int .i64 a, .int .i64 b] 3)) (some ⟨w.heap.size, 0, none⟩) 2 [a, b] :=
  (Kd.R_reads' (MvR.to_R (base := 0) (g := w.heap.size) (c := 2) (xs := [a, b]) ⟨Nat.le_refl _, by omega, _, blk_new w _, rfl, rfl⟩ (Nat.zero_le _))).2.2
set_option maxHeartbeats 8000000 in
set_option maxRecDepth 100000 in
theorem impl_MoveBoat.calls (k : Nat) (A0 : Option Addr) (c0 : Nat) (l0 : List Int) (a1 a2 : Int) (r1 : List Int) (r2 : Bool) (w : World) (hr0 : Kd.C (Kd.int .i64) w A0 l0.length l0) (hc0 : l0.length ≤ c0) (h : impl_MoveBoat.f k l0 a1 a2 = some (r1, r2)) :
  Calls Try.prog 30 #[.slice A0 l0.length c0, .int .i64 a1, .int .i64 a2] w fun e w' => ∃ v0_ : Value, e = .returned (.tuple #[v0_, .bool r2]) ∧ Kd.R (Kd.int .i64) 3 w' w.heap.size (fun _ => True) v0_ r1 ∧ Below w.heap.size w w' := by
  unfold impl_MoveBoat.f at h
  obtain ⟨t, ht, h⟩ := Option.bind_eq_some_iff.1 h
  have HR0 := am hr0
  have HT := am ht
  cases t with
  | false =>
    obtain ⟨rfl, rfl⟩ := Prod.mk.inj (Option.some.inj h)
    clear h hr0 ht
    go_enter Try.func30, Try.ntmps30
    go_wp2_with (go_at_call 39; refine (impl_arePlaces.calls k A0 c0 l0 _ 2 [a1, a2] false _ ?s hc0 (mv_two w a1 a2) (Nat.le_refl _) HT.out).mono ?_; (case s => exact Kd.C_alloc HR0.out _); rintro e w2 ⟨rfl, hb⟩)
    exact ⟨rfl, .tuple #[.slice none 0 0, .bool false], by first | rfl | (unfold results; rfl) | (simp [results, Try.f30]; done), _, rfl, Kd.R_nil _ _ _ _ _, below_step (below_alloc (Below.refl _ _) _) hb⟩
  | true =>
    rw [if_pos rfl] at h
    by_cases hq : 0 ≤ a1 ∧ a1 < (l0.length : Int) ∧ 0 ≤ a2 ∧ a2 < (l0.length : Int) ∧ l0.length ≤ 1000
    rotate_left
    · rw [if_neg hq] at h
      exact absurd h (by simp)
    rw [if_pos hq] at h
    obtain ⟨q1, q2, q3, q4, q5⟩ := hq
    obtain ⟨rfl, rfl⟩ := Prod.mk.inj (Option.some.inj h)
    obtain ⟨ad, hA, hx0⟩ := Kd.at_int hr0 a1 q1 q2
    subst hA
    obtain ⟨i, rfl⟩ : ∃ i : Nat, a1 = (i : Int) := ⟨a1.toNat, by omega⟩
    obtain ⟨b, rfl⟩ : ∃ b : Nat, a2 = (b : Int) := ⟨a2.toNat, by omega⟩
    have hi : i < l0.length := by omega
    have hpos : 0 < l0.length := by omega
    have hel : (l0.eraseIdx i).length = l0.length - 1 := by rw [List.length_eraseIdx_of_lt hi]
    have hbl : b ≤ (l0.eraseIdx i).length := by omega
    have hm1 : l0.length - 1 + 1 = l0.length := by omega
    have hlen5 : (List.take b (l0.eraseIdx i) ++ (l0.getD i 0) :: List.drop b (l0.eraseIdx i)).length = l0.length := by simp; omega
    have hx : w.cell? (ad.add i) = some (.int .i64 (l0.getD i 0)) := hx0
    have HCN : Aside0 (slices_Clone_int.f l0 = some l0) := ⟨by unfold slices_Clone_int.f; simp only [Option.bind_some, List.nil_append, List.length_nil, Nat.zero_add]; exact if_pos (by omega)⟩
    have HJ : Aside0 (IntKind.i64.wrap ((i : Int) + 1) = ((i + 1 : Nat) : Int)) := ⟨(i64_w _).trans (by unfold wrap64; omega)⟩
    rw [Int.toNat_natCast, Int.toNat_natCast]
    have hji := HJ.out
    have hi0d := eq_true q1
    have hi1d := eq_true q2
    clear h hr0 ht hx0 q3 q4 q1 q2
    obtain ⟨x, hxx⟩ : ∃ x, l0.getD i 0 = x := ⟨_, rfl⟩
    unfold mvd
    rw [hxx] at hx hlen5 ⊢
    have HL5 := am hlen5
    clear hlen5
    go_enter Try.func30, Try.ntmps30
    go_wp2_with (first | (go_at_call 39; refine (impl_arePlaces.calls k _ c0 l0 _ 2 [_, _] true _ ?s hc0 (mv_two w i b) (Nat.le_refl _) HT.out).mono ?_; (case s => exact Kd.C_alloc HR0.out _); rintro e w2 ⟨rfl, hb⟩) | fail)
    have hbw : Below w.heap.size w w2 := below_step (below_alloc (Below.refl _ _) _) hb
    have HR2 := am (Kd.C_below HR0.out hbw)
    have hx2 : w2.cell? (ad.add i) = some (.int .i64 x) := (hbw.cell (World.block_lt_of_cell? _ _ hx)).trans hx
    have HBW := am hbw
    clear hb hbw hx
    go_region_held3 (fun w' => w'.cell? (ad.add i) = some (.int .i64 x))
      (first | go_keep | exact (hb.cell (World.block_lt_of_cell? _ _ hx2)).trans hx2)
      (first
        | (go_at_call 36; (with_reducible refine (slices_Clone_int.calls _ _ l0 l0 _ ?side1 hc0 HCN.out).mono ?_); (case side1 => repeat (first | exact HR2.out | (with_reducible refine Kd.C_alloc ?_ _) | (with_reducible refine Kd.C_drewN ?_ _) | (with_reducible refine Kd.C_drew ?_))); rintro e w3 ⟨v, rfl, ho1, hb1⟩; obtain ⟨g, c, rfl, hge, hlt, hM⟩ := MvR.of_R ho1 hpos; have hcap := hM.len; have hb : Below w2.heap.size w2 w3 := below_step (by first | exact Below.refl _ _ | exact below_drew (Below.refl _ _) | exact below_drew (below_alloc (Below.refl _ _) _) | exact below_alloc (Below.refl _ _) _) hb1; have hgw : w2.heap.size ≤ g := Nat.le_trans (by first | exact Nat.le_refl _ | exact (below_size (below_alloc (Below.refl _ _) _) : w2.heap.size ≤ (w2.alloc _).heap.size)) hge; (try have hcl : w3.heap[w2.heap.size]? = some (.cells #[.int .i64 x] 3 (0, 0)) := mv_new hb1); (try have hcn : w2.heap.size ≠ g := mv_newlt hge); clear ho1 hb1 hge)
        | (go_at_call 48; (with_reducible refine (mv_delete (hM.keep ?sk) i hi).mono ?_); (case sk => first | rfl | exact Below.heap_alloc _ _ _ hlt); rintro e w4 ⟨rfl, hM4, hg4⟩; have hb4 : Below w2.heap.size w2 w4 := Below.grown (by first | exact hb | exact below_drew hb | exact below_drew (below_alloc hb _) | exact below_alloc hb _) hg4 (by first | exact below_size hb | exact below_size (below_alloc hb _)) (fun k_ e_ => by injection e_ with e_; subst e_; exact hgw); have hlt4 : g < w4.heap.size := MvR.lt hM4; (try have hcl4 : w4.heap[w2.heap.size]? = some (.cells #[.int .i64 x] 3 (0, 0)) := mv_kept hg4 hcl hcn); (try have hcl4 : w4.heap[w3.heap.size]? = some (.cells #[.int .i64 x] 3 (0, 0)) := mv_kept hg4 (blk_new w3 _) (mv_ne hlt)); (try have hcn4 : w3.heap.size ≠ g := mv_ne hlt); (try clear hcl); clear hM hg4 hb; have hb := hb4; clear hb4)
        | (go_at_call 47; (with_reducible refine (mv_insert2 (hM4.keep ?sk) hel hm1 hcap (x := x) ?sx ?sn b hbl).mono ?_); (case sk => first | rfl | exact Below.heap_alloc _ _ _ hlt4); (case sx => first | exact hcl4 | exact blk_new w4 _); (case sn => first | exact hcn | exact hcn4 | exact mv_ne hlt4); rintro e w5 ⟨rfl, hM5, hg5⟩; have hb5 : Below w2.heap.size w2 w5 := Below.grown (by first | exact hb | exact below_drew hb | exact below_drew (below_alloc hb _) | exact below_alloc hb _) hg5 (by first | exact below_size hb | exact below_size (below_alloc hb _)) (fun k_ e_ => by injection e_ with e_; subst e_; exact hgw); clear hM4 hg5 hb; have hb := hb5; clear hb5)
        | fail)
    all_goals go_wp2
    all_goals
      have hRR := MvR.to_R hM5 (Nat.le_trans (below_size HBW.out) hgw)
      rw [HL5.out] at hRR
      exact ⟨rfl, .tuple #[.slice (some ⟨g, 0, none⟩) l0.length c, .bool true], by first | rfl | (unfold results; rfl) | (simp [results, Try.f30]; done), _, rfl, hRR, below_step HBW.out hb⟩
end Go.Proofs.Ytfegbmlcbdjcgaa.X
