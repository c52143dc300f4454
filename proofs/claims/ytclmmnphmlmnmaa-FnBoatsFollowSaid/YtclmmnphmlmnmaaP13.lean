import Derived.Test.YtclmmnphmlmnmaaP4
import Derived.Test.YtclmmnphmlmnmaaP6
import Derived.Shelf.Slices.Delete
import Derived.Sort.OwnSortedInts
section
/- slices.Delete of one int, in a row of the call's own. -/
--! fn slices.Delete[[]int,int]|slices_Delete_int|making|own 0 0
--! lay dlDel := shelf_lay Lays2.n23 Nm2 23 at Try
--! laymod Derived.Shelf.Slices.Delete Derived.Ground.Names2Prog
namespace Go.Proofs.Ytclmmnphmlmnmaa.X
open Go.Proofs.Ytclmmnphmlmnmaa.Sq Go.RowKit Go.Proofs.YtclmmnphmlmnmaaW.PrintWords Go.Proofs.YtclmmnphmlmnmaaW.PrintLast Go.Proofs.YtclmmnphmlmnmaaW.PrintMore
attribute [local go_sem] max2_int min2_int max_two min_two max_three min_three max_four min_four   -- for this text's walks alone
set_option linter.unusedVariables false
set_option linter.unusedSimpArgs false
def slices_Delete_int.f (l0 : List Int) (a1 a2 : Int) : Option (List Int) := if 0 ≤ a1 ∧ a1 + 1 = a2 ∧ a2 ≤ (l0.length : Int) then some (l0.eraseIdx a1.toNat) else none
set_option maxHeartbeats 4000000 in
theorem slices_Delete_int.calls (P0_ : Nat → Prop) (u9000_ : Value) (l0 : List Int) (a1 a2 : Int) (r : List Int) (w0 w : World) (hB : Below w0.heap.size w0 w) (ho0 : Kd.R (Kd.int .i64) 3 w w0.heap.size P0_ u9000_ l0) (h : slices_Delete_int.f l0 a1 a2 = some r) :
    Calls Try.prog 47 #[u9000_, .int .i64 a1, .int .i64 a2] w fun e w' => ∃ v0_ : Value, e = .returned (v0_) ∧ Kd.R (Kd.int .i64) 3 w' w0.heap.size (fun k_ => (P0_ k_ ∨ w.heap.size ≤ k_)) v0_ r ∧ Below w0.heap.size w0 w' ∧ Kept w w' (fun k_ => P0_ k_) := by
  unfold slices_Delete_int.f at h
  by_cases hc : 0 ≤ a1 ∧ a1 + 1 = a2 ∧ a2 ≤ (l0.length : Int)
  rotate_left
  · rw [if_neg hc] at h
    cases h
  rw [if_pos hc] at h
  obtain ⟨h0, h1, h2⟩ := hc
  obtain rfl := Option.some.inj h
  clear h
  obtain ⟨i, rfl⟩ : ∃ i : Nat, a1 = (i : Int) := ⟨a1.toNat, by omega⟩
  obtain rfl : a2 = (i : Int) + 1 := by omega
  have hi : i < l0.length := by omega
  have hbase : w0.heap.size ≤ w.heap.size := hB.size
  have ho := Kd.own_of_R ho0
  rcases ho.2 with ⟨_, hn⟩ | ⟨g, c, cur, rfl, hb, hh, h3, h4, h5, h6⟩
  · omega
  have hPg : P0_ g := ho0.1 g (by simp [Value.ownBlock])
  have ht : cur.toList.take l0.length = l0.map (Value.int .i64) := by
    rw [Nat.mul_one] at h6
    exact h6
  have hs : cur.size = c := by omega
  have hd := Any.slices_Delete_int dlDel g 0 c i (i + 1) l0 w (holds_of_blockI hh ht) h3 h4 (by omega) (by omega)
  simp only [Int.natCast_add, Int.natCast_one] at hd
  refine hd.mono ?_
  rintro e w' ⟨rfl, q, rfl⟩
  have hl : (l0.eraseIdx i).length = l0.length - 1 := by rw [List.length_eraseIdx_of_lt hi]
  have he : l0.take i ++ l0.drop (i + 1) ++ List.replicate (i + 1 - i) 0 = l0.eraseIdx i ++ [0] := by
    rw [List.eraseIdx_eq_take_drop_succ, show i + 1 - i = 1 by omega]
    rfl
  rw [he]
  have hL : (l0.eraseIdx i ++ [(0 : Int)]).length = l0.length := by rw [List.length_append, hl]; simp; omega
  have hT := take_putCellsI cur (l0.eraseIdx i ++ [0]) (by rw [hL]; omega)
  have hG : w.grownBy (Go.Sort.putRow (Value.int .i64) (Go.Sort.ahead w q) g 0 (l0.eraseIdx i ++ [0]).toArray) (some g) := by
    have := grownBy_sortedI (w := w) (g := g) (n := q) (os := #[]) (l0.eraseIdx i ++ [0]).toArray
    rwa [Go.Sort.grow_empty] at this
  have hH := heap_sortedI (w := w) (g := g) (n := q) (os := #[]) (l0.eraseIdx i ++ [0]).toArray hh
  rw [Go.Sort.grow_empty] at hH
  have hT2 := congrArg (List.take (l0.eraseIdx i).length) hT
  rw [List.take_take, Nat.min_eq_left (by rw [hL, hl]; omega), List.map_append, List.take_left' (by simp)] at hT2
  rw [Int.toNat_natCast]
  refine ⟨.slice (some ⟨g, 0, none⟩) (l0.eraseIdx i).length c, by rw [hl, show i + 1 - i = 1 by omega], ?_, hB.grown hG hbase (fun k_ e_ => by injection e_ with e_; subst e_; exact hb), Kept.of_grown (S := fun k_ => P0_ k_) hG (Kept.refl _ _) (fun k_ e_ => by injection e_ with e_; subst e_; exact .inl hPg)⟩
  exact Kd.R_of_own ⟨by simp [encs], .inr ⟨g, c, _, rfl, hb, hH, by rw [hl]; omega, h4, by simp [Go.Sort.putCells, hs], by rw [Nat.mul_one]; exact hT2⟩⟩ (fun k_ hk_ => by
    have : g = k_ := by simpa [Value.ownBlock] using hk_
    subst this
    exact .inl hPg)
end Go.Proofs.Ytclmmnphmlmnmaa.X
end
