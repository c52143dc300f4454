import Derived.Test.YtfoflpomfmbjoaaDoorP1
section
namespace Go.Proofs.YtfoflpomfmbjoaaDoor.Open
open Go.Proofs.YtfoflpomfmbjoaaDoorW.PrintWords
end Go.Proofs.YtfoflpomfmbjoaaDoor.Open
end
section
namespace Go.Proofs.YtfoflpomfmbjoaaDoor.Sq
open Go.RowKit Go.Proofs.YtfoflpomfmbjoaaDoorW.PrintWords
class Pst (W W' : World) : Prop where
  out : Below W.heap.size W W'
instance pst0 (W : World) : Pst W W := ⟨Below.refl _ _⟩
instance pstN (w : World) (a b : Nat) : Pst (w.drewN a) (w.drewN (a + b)) := ⟨by rw [← World.drewN_drewN]; exact pw_below_drewN (Below.refl _ _) b⟩
instance pst1 (W W' : World) (o : Obj) [h : Pst W W'] : Pst W (W'.alloc o) := ⟨below_alloc h.out o⟩
instance pst2 (W W' : World) (n : Nat) [h : Pst W W'] : Pst W (W'.drewN n) := ⟨pw_below_drewN h.out n⟩
instance pst3 (W W' : World) [h : Pst W W'] : Pst W W'.drew := ⟨below_drew1 h.out⟩
theorem bkS {W W' : World} {g : Nat} {o : Obj} (h : W.heap[g]? = some o) [s : Pst W W'] : W'.heap[g]? = some o := blk_below h s.out
theorem roS {α : Type} {d : Kd α} {e : Nat} {W W' : World} {base : Nat} {ok : Nat → Prop} {v : Value} {xs : List α} (h : d.R e W base ok v xs) [s : Pst W W'] : d.R e W' base ok v xs := Kd.R_below h s.out
theorem hbS {w W W' : World} (h : Below w.heap.size w W) [s : Pst W W'] : Below w.heap.size w W' := below_step h s.out
theorem am {p : Prop} (h : p) : Aside0 p := ⟨h⟩
theorem nbL {W : World} {g g' : Nat} {o : Obj} (h : W.heap[g]? = some o) (hg : g' = W.heap.size) : g ≠ g' := by rw [hg]; exact Nat.ne_of_lt (blk_lt h)
theorem nbG {W : World} {g g' : Nat} {o : Obj} (h : W.heap[g]? = some o) (hg : g' = W.heap.size) : g' ≠ g := by rw [hg]; exact Nat.ne_of_gt (blk_lt h)
theorem gwL {w W : World} {g : Nat} (h : Below w.heap.size w W) (hg : g = W.heap.size) : w.heap.size ≤ g := by rw [hg]; exact below_size h
theorem itP {α : Type} {c : Prop} [Decidable c] {a : Option α} {r : α} (h : (if c then a else none) = some r) : c ∧ a = some r := by
  by_cases hc : c
  · rw [if_pos hc] at h; exact ⟨hc, h⟩
  · rw [if_neg hc] at h; cases h
theorem itN {α : Type} {c : Prop} [Decidable c] {a : Option α} {r : α} (h : (if c then none else a) = some r) : ¬ c ∧ a = some r := by
  by_cases hc : c
  · rw [if_pos hc] at h; cases h
  · rw [if_neg hc] at h; exact ⟨hc, h⟩
/-- Which of n are done, told by a number. -/
def dn_ (n m : Nat) : Array Bool := ((List.range n).map fun i => m.testBit i).toArray
end Go.Proofs.YtfoflpomfmbjoaaDoor.Sq
end
