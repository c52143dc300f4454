import Derived.Test.YtclmmnphmlmnmaaP4
import Derived.Test.YtclmmnphmlmnmaaP6
import Derived.Shelf.SlIterI.Nil
import Derived.Shelf.SortM.Plain
import Derived.Shelf.SortM.SortNone
import Derived.RangeFuncNested
import Derived.RangeFuncBound
import Derived.RangeFuncBox
import Derived.RangeFuncCalls
import Derived.RangeFuncLeaves
import Derived.RangeFuncWrites
import Derived.Maps.AppendAt
import Derived.Shelf.Abstract
import Derived.WalkKit
import Derived.OwnWalkIn
import Derived.TacticsInMore
import Derived.LoopNIn
import Derived.LoopIn
section
/- IsOrder: slices.Sorted(slices.Values(..)) at ints, of whatever length. -/
--! fn impl.IsOrder|impl_IsOrder|making
--! uses
--! lay isoSort := shelf_lay_g SlLaysM.n5 Slgm 5 at Try 55
--! laymod Derived.Shelf.SortM.Plain Derived.Shelf.SortM.SortNone Derived.Ground.SlgmProg
namespace Go.Proofs.Ytclmmnphmlmnmaa.X
open Go.Proofs.Ytclmmnphmlmnmaa.Sq Go.RowKit Go.Proofs.YtclmmnphmlmnmaaW.PrintWords Go.Proofs.YtclmmnphmlmnmaaW.PrintLast Go.Proofs.YtclmmnphmlmnmaaW.PrintMore
attribute [local go_sem] max2_int min2_int max_two min_two max_three min_three max_four min_four   -- for this text's walks alone
set_option linter.unusedVariables false
set_option linter.unusedSimpArgs false
section
open Go.Shelf Go.Sort
attribute [local go_sem] Oper.semAt_some
theorem Iso.add_block (a : Addr) (n : Nat) : (a.add n).block = a.block := by unfold Addr.add; split <;> rfl
/-- WHAT HAS COME WHEN k ROUNDS ARE OVER: f 0, .., f (k - 1). -/
def Iso.upto {α : Type} (f : Nat → α) (k : Nat) : List α := (List.range k).map f
theorem Iso.upto_succ {α : Type} (f : Nat → α) (k : Nat) : Iso.upto f (k + 1) = Iso.upto f k ++ [f k] := by simp [Iso.upto, List.range_succ]
theorem Iso.upto_length {α : Type} (f : Nat → α) (k : Nat) : (Iso.upto f k).length = k := by simp [Iso.upto]
theorem Iso.upto_all (zs : List Int) : Iso.upto (fun j => zs[j]?.getD 0) zs.length = zs := by
  apply List.ext_getElem
  · simp [Iso.upto]
  · intro i h1 h2
    simp [Iso.upto, h2]
set_option maxRecDepth 100000 in
set_option maxHeartbeats 2000000 in
/-- **slices.Values's closure: 'for _, v := range s { if !yield(v) { return } }': FOR EVERY LOOP BODY THAT KEEPS WHAT LAY BELOW n₀.** -/
theorem Iso.values1_in (F : Fence) (n : Nat) (h7 : F.fn 56) (hro : F.round = none) (hn : 1 ≤ n) (l Bs n₀ len cap : Nat) (ad : Addr) (zs : List Int) (hreach : len * 8 ≤ 140737488351232) (hb : ad.block < n₀) (J Jx : List Int → World → Prop)
    (hY : ∀ pre x W, J pre W → pre.length < len → YieldAt F (n - 1) Try.prog l #[.int .i64 x] W fun e W' =>
      (e = .returned (.bool true) ∧ J (pre ++ [x]) W' ∧ Below n₀ W W') ∨ (e = .returned (.bool false) ∧ Jx (pre ++ [x]) W'))
    (W : World) (hBs : W.cell? ⟨Bs, 0, none⟩ = some (.slice (some ad) len cap)) (hc : ∀ j, j < len → W.cell? (ad.add j) = some (.int .i64 (zs[j]?.getD 0))) (h0 : J [] W) :
    CallsIn F n Try.prog 56 #[.func (.yield l) #[] #[], .pointer (some ⟨Bs, 0, none⟩)] W fun e W' => (∃ v, e = .returned v) ∧
      ((∃ ys, ys = Iso.upto (fun j => zs[j]?.getD 0) len ∧ J ys W') ∨ (∃ pre, (∃ k, k ≤ len ∧ pre = Iso.upto (fun j => zs[j]?.getD 0) k) ∧ Jx pre W')) := by
  refine callsIn_of_wp Try.func56 rfl h7 ?_ hro
  simp only [Try.ntmps56, List.size_toArray, List.length_cons, List.length_nil, Nat.reduceAdd, Nat.reduceSub, Array.replicate_succ, Array.replicate_zero, List.push_toArray, List.append_toArray, List.nil_append, List.cons_append]
  gi_wp2
  gi_loopw [7] (fun i wr => ∃ k : Nat, k ≤ len ∧ i = .int .i64 k ∧ J (Iso.upto (fun j => zs[j]?.getD 0) k) wr ∧ Below n₀ W wr)
    (fun i _ => len - (intOf i).toNat)
  case atStart => exact ⟨0, Nat.zero_le _, rfl, h0, Below.refl _ _⟩
  case round =>
    obtain ⟨k, hk, rfl, hJs, hnx⟩ := hrel
    have hcx : k < len → wr.cell? (ad.add k) = some (.int .i64 (zs[k]?.getD 0)) := fun h => (hnx.cell (p := ad.add k) (by rw [Iso.add_block]; exact hb)).trans (hc k h)
    by_cases hlt : k < len
    · obtain ⟨fn, tmps, assign, body, hy, hR⟩ := hY _ (zs[k]?.getD 0) wr hJs (by rw [Iso.upto_length]; exact hlt)
      have hcx' := hcx hlt
      gi_wp2
      refine hR.mono ?_
      rintro e W3 (⟨rfl, hJ3, hk3⟩ | ⟨rfl, hJx3⟩)
      · -- THE ROUND GOES ON
        gi_wp2
        go_roundw
        case rel => exact ⟨k + 1, by omega, by simp, by rw [Iso.upto_succ]; exact hJ3, hnx.trans hk3⟩
        case measure => simp [intOf]; omega
      · gi_wp2
        refine bodyPost_ret (results_none rfl _ _ _) rfl ?_
        exact ⟨⟨_, rfl⟩, .inr ⟨_, ⟨k + 1, by omega, (Iso.upto_succ _ _).symm⟩, hJx3⟩⟩
    · obtain rfl : k = len := by omega
      gi_wp2
      go_end0
      exact ⟨⟨_, rfl⟩, .inl ⟨_, rfl, hJs⟩⟩
theorem Iso.upto_take (zs : List Int) {k : Nat} (hk : k ≤ zs.length) : Iso.upto (fun j => zs[j]?.getD 0) k = zs.take k := by
  apply List.ext_getElem
  · simp [Iso.upto, hk]
  · intro i h1 h2
    have : i < zs.length := by simp [Iso.upto] at h1; omega
    simp [Iso.upto, this]
/-- THE SLICE VALUE sv HOLDS THE ints zs, in a block below n₀; or it is nil and there are none. -/
def Iso.Ints (n₀ : Nat) (W : World) (sv : Value) (zs : List Int) : Prop :=
  (∃ A cap, sv = .slice A 0 cap ∧ zs = []) ∨ ∃ ad cap, sv = .slice (some ad) zs.length cap ∧ ad.block < n₀ ∧ ∀ j, j < zs.length → W.cell? (ad.add j) = some (.int .i64 (zs[j]?.getD 0))
theorem Iso.Ints.below {n₀ : Nat} {A B : World} (h : Below n₀ A B) {sv : Value} {zs : List Int} : Iso.Ints n₀ A sv zs → Iso.Ints n₀ B sv zs
  | .inl e => .inl e
  | .inr ⟨ad, cap, e, hb, hc⟩ => .inr ⟨ad, cap, e, hb, fun j hj => (h.cell (p := ad.add j) (by rw [Iso.add_block]; exact hb)).trans (hc j hj)⟩
set_option maxRecDepth 100000 in
set_option maxHeartbeats 1000000 in
/-- .. at the nil slice: no round. -/
theorem Iso.values1_nil_in (F : Fence) (n : Nat) (h7 : F.fn 56) (hro : F.round = none) (l Bs : Nat) (J : List Int → World → Prop) (W : World) (A : Option Addr) (cap : Nat) (hBs : W.cell? ⟨Bs, 0, none⟩ = some (.slice A 0 cap)) (h0 : J [] W) :
    CallsIn F n Try.prog 56 #[.func (.yield l) #[] #[], .pointer (some ⟨Bs, 0, none⟩)] W fun e W' => (∃ v, e = .returned v) ∧ J [] W' := by
  refine callsIn_of_wp Try.func56 rfl h7 ?_ hro
  simp only [Try.ntmps56, List.size_toArray, List.length_cons, List.length_nil, Nat.reduceAdd, Nat.reduceSub, Array.replicate_succ, Array.replicate_zero, List.push_toArray, List.append_toArray, List.nil_append, List.cons_append]
  gi_wp2
  gi_loopw [7] (fun i wr => i = .int .i64 0 ∧ J [] wr) (fun _ _ => 0)
  case atStart => exact ⟨rfl, h0⟩
  case round =>
    obtain ⟨rfl, hJs⟩ := hrel
    gi_wp2
    go_end0
    exact ⟨⟨_, rfl⟩, hJs⟩
set_option maxHeartbeats 1000000 in
/-- **slices.Values(s)**: the slice value is boxed; the function value captures the box. -/
theorem Iso.values_in (F : Fence) (n : Nat) (h5 : F.fn 34) (hro : F.round = none) (a : Option Addr) (len cap : Nat) (w : World) :
    CallsIn F n Try.prog 34 #[.slice a len cap] w fun e w' => e = .returned (.func (.func 56) #[] #[.pointer (some ⟨w.heap.size, 0, none⟩)]) ∧ w' = w.alloc (.cells #[.slice a len cap] 24) := by
  refine callsIn_of_wp Try.func34 rfl h5 ?_ hro
  simp only [Try.ntmps34, List.size_toArray, List.length_cons, List.length_nil, Nat.reduceAdd, Nat.reduceSub, Array.replicate_succ, Array.replicate_zero, List.push_toArray, List.append_toArray, List.nil_append, List.cons_append]
  gi_wp2
  go_ret
  exact ⟨rfl, rfl⟩
/-- **slices.Values(s) HANDS BACK A VALUE THAT 'SeqStopsK', AT 'Kp := Below n₀'**: all of zs, in order; or a prefix. EVERY SLICE OF ints WITHIN THE REACH, THE nil ONE TOO. -/
theorem Iso.values_stops (F : Fence) (n : Nat) (h7 : F.fn 56) (hro : F.round = none) (hn : 1 ≤ n) (Bs n₀ : Nat) (sv : Value) (zs : List Int) (hreach : zs.length * 8 ≤ 140737488351232) (w : World) (hBs : Bs < w.heap.size) (hn₀ : n₀ ≤ w.heap.size)
    (hc : w.cell? ⟨Bs, 0, none⟩ = some sv) (hI : Iso.Ints n₀ w sv zs) :
    SeqStopsK F n Try.prog 56 #[.pointer (some ⟨Bs, 0, none⟩)] (fun x : Int => #[Value.int .i64 x]) (Below n₀) (fun ys => ys = zs) (fun pre => pre <+: zs) zs.length w := fun l J Jx W hW _ _ hY h0 => by
  have hc' := (hW.cell (p := ⟨Bs, 0, none⟩) hBs).trans hc
  rcases hI.below (hW.mono hn₀) with ⟨A, cap, rfl, rfl⟩ | ⟨ad, cap, rfl, hb, hcs⟩
  · exact (Iso.values1_nil_in F n h7 hro l Bs J W A cap hc' h0).mono fun e W' ⟨he, hj⟩ => ⟨he, .inl ⟨_, rfl, hj⟩⟩
  · refine (Iso.values1_in F n h7 hro hn l Bs n₀ zs.length cap ad zs hreach hb J Jx hY W hc' hcs h0).mono ?_
    rintro e W' ⟨he, ⟨ys, rfl, hj⟩ | ⟨pre, ⟨k, hk, rfl⟩, hj⟩⟩
    · exact ⟨he, .inl ⟨_, Iso.upto_all zs, hj⟩⟩
    · exact ⟨he, .inr ⟨_, by rw [Iso.upto_take zs hk]; exact List.take_prefix _ _, hj⟩⟩
set_option maxRecDepth 100000 in
set_option maxHeartbeats 2000000 in
/-- slices.AppendSeq(nil, slices.Values(xs)): a new row that holds the same. -/
theorem Iso.append_in (n : Nat) (hn : 3 ≤ n) (Bs : Nat) (sv : Value) (zs : List Int) (hlen : zs.length ≤ maxLen) (hbytes : zs.length * 8 ≤ 140737488351232) (w : World) (hBs : Bs < w.heap.size) (hc : w.cell? ⟨Bs, 0, none⟩ = some sv) (hI : Iso.Ints w.heap.size w sv zs) :
    CallsIn Fence.wide n Try.prog 57 #[.slice none 0 0, .func (.func 56) #[] #[.pointer (some ⟨Bs, 0, none⟩)]] w fun e W' => ∃ v, e = .returned v ∧ W'.ownsRow w.heap.size 3 1 v zs.length (zs.map (Value.int .i64)) ∧ Below w.heap.size w W' := by
  have h1 : 1 ≤ n := by omega
  obtain ⟨i0, hi, hz0, hz1, hz2⟩ := info_parts info3
  refine callsIn_of_wp_marks Try.func57 rfl trivial ?_ rfl
  simp only [Try.ntmps57, List.size_toArray, List.length_cons, List.length_nil, Nat.reduceAdd, Nat.reduceSub, Array.replicate_succ, Array.replicate_zero, List.push_toArray, List.append_toArray, List.nil_append, List.cons_append]
  gi_wp2
  have bO := Boxed.new w 24 (.slice none 0 0)
  have hB0 : Below w.heap.size w (w.alloc (.cells #[.slice none 0 0] 24)) := (Below.refl _ w).alloc (Nat.le_refl _) _
  have hst := Iso.values_stops Fence.wide (n - 1) trivial rfl (by omega) Bs w.heap.size sv zs hbytes (w.alloc (.cells #[.slice none 0 0] 24)) (by simp; omega) (by simp) ((hB0.cell (p := ⟨Bs, 0, none⟩) hBs).trans hc) (hI.below hB0)
  refine wpIn_rangeFunc_ownG rfl h1 (gf := 56) (lb := #[.pointer (some ⟨Bs, 0, none⟩)]) rfl trivial (enters_of Try.func56 (by kernel_rfl) rfl)
    hst belowK_t (belowK_b (by simp)) (Below.refl _ _) (fun _ => rfl)
    (fun pre W => (∃ v, Boxed W w.heap.size 24 v ∧ W.ownsRow w.heap.size 3 1 v pre.length (pre.map (Value.int .i64)) ∧ (v = .slice none 0 0 ↔ pre = [])) ∧ Below w.heap.size w W)
    (fun _ _ _ => False)
    (OwnFrom.and (Own.from (holdsRow_own w.heap.size w.heap.size 24 3 1 (fun pre => pre.length) (fun pre => pre.map (Value.int .i64)) (fun pre v => v = .slice none 0 0 ↔ pre = [])) _) (ownFrom_below (Nat.le_refl _) (by simp)))
    (fun _ _ _ _ _ hs _ _ => hs)
    ⟨⟨_, bO, World.ownsRow_nil _ _ _ _, by simp⟩, hB0⟩
    (fun x => { tmps := #[.slice none 0 0, .func (.func 56) #[] #[.pointer (some ⟨Bs, 0, none⟩)], .pointer (some ⟨w.heap.size, 0, none⟩), undef, .slice none 0 0, .int .i64 x, .func (.func 56) #[] #[.pointer (some ⟨Bs, 0, none⟩)], .int .i64 x, undef, undef, undef, undef, undef], defers := [] }) ?assign ?body ?done ?stop
  case assign =>
    intro l x W K hK
    gi_wp2
    exact hK
  case body =>
    rintro l pre x W ⟨⟨v, hv, hrow, hnil⟩, hB⟩ hlt
    have hc := hv.cell
    have hpl : pre.length ≤ pre.length := Nat.le_refl _
    gi_wp2_with (gi_at_builtin; refine wpListIn_append_own _ rfl _ _ 24 rfl w.heap.size 3 i0 (.int .i64 0) 1 8 Try.underlying24 hi hz0 hz1 hz2 rfl (by decide) _ _ _ rfl (hrow.alloc _) ⟨W.heap.size, 0, none⟩ 1 1 [.int .i64 x] rfl rfl (cell_one_new _ _ _) (by simp [Value.oneCell']) (by omega) (by omega) (by have := hB.size; simp; omega) ?_; intro v' w1 hown' hgrow _; obtain ⟨g', cap', rfl⟩ := ownsRow_succ hown'; obtain ⟨hv1, hv2, hr2, hk2, hb2⟩ := hv.appended (by decide) hrow hB.size (Nat.le_refl _) hown' hgrow; have hc1 := hv1.cell; have hf1 := hv1.frozen)
    exact ⟨hk2.from _, hb2, ⟨_, hv2, by simpa using hr2, by simp⟩, hB.trans hb2⟩
  case done =>
    rintro D ys W hD rfl ⟨⟨v, hv, hrow, hnil⟩, hB⟩ hK
    have hc := hv.cell
    gi_wp2
    refine ⟨by simp, .inl ⟨_, _, rfl, run_takeDeferred hK, ?_⟩⟩
    exact ⟨_, results_tmp rfl _ _ _, v, rfl, ownsRow_putObj hrow _ hK rfl, hB.trans (belowK_b (w := w) (Nat.le_refl _) W D _ _ (by simp at hD; omega) hK rfl rfl)⟩
  case stop =>
    rintro D c pre W _ _ h _
    exact h.elim
set_option maxHeartbeats 1000000 in
theorem Iso.collect_in (n : Nat) (hn : 4 ≤ n) (Bs : Nat) (sv : Value) (zs : List Int) (hlen : zs.length ≤ maxLen) (hbytes : zs.length * 8 ≤ 140737488351232) (w : World) (hBs : Bs < w.heap.size) (hc : w.cell? ⟨Bs, 0, none⟩ = some sv) (hI : Iso.Ints w.heap.size w sv zs) :
    CallsIn Fence.wide n Try.prog 54 #[.func (.func 56) #[] #[.pointer (some ⟨Bs, 0, none⟩)]] w fun e W' => ∃ v, e = .returned v ∧ W'.ownsRow w.heap.size 3 1 v zs.length (zs.map (Value.int .i64)) ∧ Below w.heap.size w W' := by
  have h1 : 1 ≤ n := by omega
  have hfA : Fence.wide.fn 57 := trivial
  refine callsIn_of_wp Try.func54 rfl trivial ?_ rfl
  simp only [Try.ntmps54, List.size_toArray, List.length_cons, List.length_nil, Nat.reduceAdd, Nat.reduceSub, Array.replicate_succ, Array.replicate_zero, List.push_toArray, List.append_toArray, List.nil_append, List.cons_append]
  gi_wp2_with (gi_at_call 57; refine (Iso.append_in (n - 1) (by omega) Bs sv zs hlen hbytes w hBs hc hI).mono ?_; rintro e W ⟨v, rfl, hrow, hb⟩)
  go_ret
  exact ⟨v, rfl, hrow, hb⟩
set_option maxHeartbeats 1000000 in
theorem Iso.sorted_in (n : Nat) (hn : 5 ≤ n) (Bs : Nat) (sv : Value) (zs : List Int) (hlen : zs.length ≤ maxLen) (hbytes : zs.length * 8 ≤ 140737488351232) (w : World) (hBs : Bs < w.heap.size) (hc : w.cell? ⟨Bs, 0, none⟩ = some sv) (hI : Iso.Ints w.heap.size w sv zs) :
    CallsIn Fence.wide n Try.prog 33 #[.func (.func 56) #[] #[.pointer (some ⟨Bs, 0, none⟩)]] w fun e W' => ∃ v, e = .returned v ∧ W'.ownsRow w.heap.size 3 1 v zs.length ((zs.mergeSort (fun x y => decide (x ≤ y))).map encZ) ∧ Below w.heap.size w W' := by
  have h1 : 1 ≤ n := by omega
  have hfC : Fence.wide.fn 54 := trivial
  have hfS : Fence.wide.fn 55 := trivial
  refine callsIn_of_wp Try.func33 rfl trivial ?_ rfl
  simp only [Try.ntmps33, List.size_toArray, List.length_cons, List.length_nil, Nat.reduceAdd, Nat.reduceSub, Array.replicate_succ, Array.replicate_zero, List.push_toArray, List.append_toArray, List.nil_append, List.cons_append]
  gi_wp2_with (gi_at_call 54; refine (Iso.collect_in (n - 1) (by omega) Bs sv zs hlen hbytes w hBs hc hI).mono ?_; rintro e W ⟨v, rfl, hrow, hb⟩)
  rcases hrow.2 with ⟨rfl, hz⟩ | ⟨gb, cap, cur, rfl, hbase, hgb, r1, r2, r3, r4⟩
  · have hss : zs = [] := List.eq_nil_of_length_eq_zero hz
    subst hss
    gi_wp2_with (gi_at_call 55; refine (callsIn_wide.2 (AnyM.slices_Sort_int_none isoSort none 0 W)).mono ?_; rintro e w' ⟨rfl, rfl⟩)
    go_ret
    exact ⟨.slice none 0 0, rfl, by simpa using hrow, hb⟩
  · have hH : Holds encZ W gb 0 zs.toArray := holds_of_block_i hgb (by simpa using r4)
    have hgl : gb < W.heap.size := (Array.getElem?_eq_some_iff.1 hgb).1
    have hsz : zs.length < 4611686018427387904 := by unfold maxLen at hlen; omega
    have cS := (callsIn_wide (n := n - 1)).2 (AnyM.slices_Sort_int isoSort gb 0 cap zs W hH hgl hsz)
    change CallsIn _ _ Try.prog 55 _ _ _ at cS
    gi_wp2_with (gi_at_call 55; refine cS.mono ?_; rintro e w' ⟨rfl, nn, os, rfl⟩)
    go_ret
    exact ⟨_, rfl, ownsRow_sorted_i (by simp) hbase hgb r1 r2 r3, hb.grown (grownBy_sorted_i _) hb.size (fun j hj => by cases hj; exact hbase)⟩
end
section
open Go.Shelf Go.Sort
def isoS (l : List Int) : List Int := l.mergeSort (fun x y => decide (x ≤ y))
theorem isoS_len (l : List Int) : (isoS l).length = l.length := List.length_mergeSort _
def isoUp (s : List Int) (n : Nat) : Prop := ∀ i : Nat, i < n → s.getD i 0 = (i : Int) + 1
instance (s : List Int) (n : Nat) : Decidable (isoUp s n) := inferInstanceAs (Decidable (∀ i : Nat, i < n → _))
def impl_IsOrder.f (l0 : List Int) : Option Bool := if l0.length ≤ 1000000000000 then some (decide (isoUp (isoS l0) l0.length) && decide (1 ≤ l0.length ∧ l0.length ≤ 8)) else none
set_option maxHeartbeats 8000000 in
set_option maxRecDepth 100000 in
theorem impl_IsOrder.calls (A0 : Option Addr) (c0 : Nat) (l0 : List Int) (r : Bool) (w : World) (hr0 : Kd.C (Kd.int .i64) w A0 l0.length l0) (hc0 : l0.length ≤ c0) (h : impl_IsOrder.f l0 = some r) :
  Calls Try.prog 10 #[.slice A0 l0.length c0] w fun e w' => e = .returned (.bool r) ∧ Below w.heap.size w w' := by
  unfold impl_IsOrder.f at h
  by_cases hl : l0.length ≤ 1000000000000
  rotate_left
  · rw [if_neg hl] at h; cases h
  rw [if_pos hl] at h
  obtain hrr := (Option.some.inj h).symm
  have HRR0 := am hrr
  clear h hrr
  have hI : Iso.Ints (w.alloc (.cells #[.slice A0 l0.length c0] 24)).heap.size (w.alloc (.cells #[.slice A0 l0.length c0] 24)) (.slice A0 l0.length c0) l0 := by
    have hrd := Kd.reads_of_C (d := (0 : Int)) hr0
    cases l0 with
    | nil => exact .inl ⟨A0, c0, rfl, rfl⟩
    | cons x t =>
      obtain ⟨ad, rfl, hcell⟩ := hrd.2.2 (Nat.succ_pos _)
      have hlt : ad.block < w.heap.size := World.block_lt_of_cell? w (ad.add 0) (hcell 0 (Nat.succ_pos _))
      refine .inr ⟨ad, c0, rfl, by rw [World.size_alloc]; omega, fun j hj => ?_⟩
      rw [← List.getD_eq_getElem?_getD]
      exact (((Below.refl _ w).alloc (Nat.le_refl _) _).cell (p := ad.add j) (by rw [Iso.add_block]; exact hlt)).trans (hcell j hj)
  go_enter Try.func10, Try.ntmps10
  go_wp2_with fail
  refine (callsIn_wide.1 (Iso.values_in Fence.wide 6 trivial rfl A0 l0.length c0 w)).mono ?_
  rintro e W1 ⟨rfl, rfl⟩
  go_wp2_with fail
  refine (callsIn_wide.1 (Iso.sorted_in 6 (by omega) w.heap.size (.slice A0 l0.length c0) l0 (by unfold maxLen; omega) (by omega) (w.alloc (.cells #[.slice A0 l0.length c0] 24)) (by simp) (by simp) hI)).mono ?_
  rintro e W2 ⟨v, rfl, hrow, hb⟩
  have hB2 : Below w.heap.size w W2 := ((Below.refl _ w).alloc (Nat.le_refl _) _).trans (hb.mono (by simp))
  have hR : Kd.R (Kd.int .i64) 3 W2 (w.alloc (.cells #[.slice A0 l0.length c0] 24)).heap.size (fun _ => True) v (isoS l0) := Kd.R_of_own (by rw [isoS_len]; exact hrow) (fun _ _ => trivial)
  obtain ⟨A, cap, rfl⟩ := Kd.R_slice hR
  rw [isoS_len] at hR ⊢
  have hC := (Kd.R_reads' hR).2.2
  rw [isoS_len] at hC
  have HC := am hC
  have HB := am hB2
  clear hb hrow hR hB2 hC hI hr0
  go_wp2_with fail
  have hS := isoS_len l0
  go_loopg [9] l0.length (fun kq v9 w' => ∃ i : Nat, v9 = .int .i64 (i : Int) ∧ Aside0 (i ≤ l0.length ∧ l0.length - i ≤ kq) ∧ Aside0 (isoUp (isoS l0) i) ∧ w' = W2)
  case atStart => exact ⟨0, rfl, ⟨by omega⟩, ⟨fun i hi => absurd hi (Nat.not_lt_zero i)⟩, rfl⟩
  case round =>
    obtain ⟨i, rfl, HK, HU, rfl⟩ := hrel
    by_cases hi : i < l0.length
    · obtain ⟨k1, rfl⟩ : ∃ k1, gk = k1 + 1 := ⟨gk - 1, by have := HK.out; omega⟩
      obtain ⟨ad, hA, hx⟩ := Kd.at_int HC.out (i : Int) (by omega) (by omega)
      rw [Int.toNat_natCast] at hx
      have hgi : YtclmmnphmlmnmaaW.PrintWords.rd (isoS l0) (i : Int) = (isoS l0).getD i 0 := by unfold YtclmmnphmlmnmaaW.PrintWords.rd; rw [Int.toNat_natCast]
      rw [hgi] at hx
      obtain ⟨x, hxe⟩ : ∃ x, x = (isoS l0).getD i 0 := ⟨_, rfl⟩
      rw [← hxe] at hx
      have HX := am hxe
      clear hxe hgi
      subst hA
      have hci : decide ((i : Int) < (l0.length : Int)) = true := decide_eq_true (by omega)
      have hii := eq_true (show (i : Int) < (l0.length : Int) by omega)
      by_cases hxi : x = (i : Int) + 1
      · subst hxi
        go_wp2
        go_roundg k1
        case measure => exact Nat.lt_succ_self _
        case rel =>
          refine ⟨i + 1, by simp, ⟨by have := HK.out; omega⟩, ⟨fun j hj => ?_⟩, rfl⟩
          by_cases hji : j < i
          · exact HU.out j hji
          · obtain rfl : j = i := by omega
            exact HX.out.symm
      · have hb1 : (x != (i : Int) + 1) = true := by simpa using hxi
        have hno : ¬ isoUp (isoS l0) l0.length := fun h => hxi (by rw [HX.out]; exact h i hi)
        have hr : (decide (isoUp (isoS l0) l0.length) && decide (1 ≤ l0.length ∧ l0.length ≤ 8)) = false := by rw [decide_eq_false hno]; rfl
        have HRR := am (HRR0.out.trans hr)
        clear hxi hno hr
        go_wp2
        go_ret
        exact ⟨by rw [HRR.out]; rfl, HB.out⟩
    · obtain rfl : i = l0.length := by have := HK.out; omega
      have hci : decide ((l0.length : Int) < (l0.length : Int)) = false := decide_eq_false (by omega)
      have hr : (decide (isoUp (isoS l0) l0.length) && decide (1 ≤ l0.length ∧ l0.length ≤ 8)) = (decide (1 ≤ (l0.length : Int)) && decide ((l0.length : Int) ≤ 8)) := by
        rw [decide_eq_true HU.out, Bool.true_and]
        by_cases h1 : 1 ≤ l0.length
        · by_cases h2 : l0.length ≤ 8
          · rw [decide_eq_true (show 1 ≤ l0.length ∧ l0.length ≤ 8 from ⟨h1, h2⟩), decide_eq_true (show (1 : Int) ≤ (l0.length : Int) by omega), decide_eq_true (show (l0.length : Int) ≤ 8 by omega)]; rfl
          · rw [decide_eq_false (show ¬ (1 ≤ l0.length ∧ l0.length ≤ 8) from fun h => h2 h.2), decide_eq_false (show ¬ (l0.length : Int) ≤ 8 by omega), Bool.and_false]
        · rw [decide_eq_false (show ¬ (1 ≤ l0.length ∧ l0.length ≤ 8) from fun h => h1 h.1), decide_eq_false (show ¬ (1 : Int) ≤ (l0.length : Int) by omega), Bool.false_and]
      have HRR := am (HRR0.out.trans hr)
      clear hi hr
      go_wp2
      all_goals go_ret
      all_goals refine ⟨?_, HB.out⟩
      all_goals rw [HRR.out]
      · have h1 : (1 : Int) ≤ (l0.length : Int) := by first | assumption | omega
        rw [decide_eq_true h1, Bool.true_and]
        rfl
      · have h1 : ¬ (1 : Int) ≤ (l0.length : Int) := by first | assumption | omega
        rw [decide_eq_false h1]
        rfl
end
end Go.Proofs.Ytclmmnphmlmnmaa.X
end
