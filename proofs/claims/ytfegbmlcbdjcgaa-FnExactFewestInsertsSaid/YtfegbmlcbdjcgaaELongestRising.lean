/- LongestRising: a function value that calls itself and writes a variable that it captured. -/
--! fn impl.LongestRising|impl_LongestRising|rounds|making
--! uses impl.IsOrder; slices.Clone[[]int,int]
import Derived.Test.YtfegbmlcbdjcgaaX0
import Derived.Test.YtfegbmlcbdjcgaaEIsOrder
import Derived.Test.YtfegbmlcbdjcgaaX5
import Derived.Deep.RegionHeld3
import Derived.Deep.AppendLies
import Derived.Deep.RegionLaw
import Derived.Laws.EntriesVeiled
namespace Go.Proofs.Ytfegbmlcbdjcgaa.X
open Go.Proofs.Ytfegbmlcbdjcgaa.Sq Go.RowKit Go.Proofs.YtfegbmlcbdjcgaaW.PrintWords Go.Proofs.YtfegbmlcbdjcgaaW.PrintLast Go.Proofs.YtfegbmlcbdjcgaaW.PrintMore
attribute [local go_sem] max2_int min2_int max_two min_two max_three min_three max_four min_four   -- for this text's walks alone
set_option linter.unusedVariables false
set_option linter.unusedSimpArgs false

mutual
def impl_LongestRising_1.f : Nat → List Int → List Int → List Int → Int → Int → Option (List Int)
 | 0, _, _, _, _, _ => none
 | k + 1, o, b, l, fr, la => if (l.length : Int) > (b.length : Int) then impl_LongestRising_1.l0 k o l l la fr else impl_LongestRising_1.l0 k o b l la fr
def impl_LongestRising_1.l0 : Nat → List Int → List Int → List Int → Int → Int → Option (List Int)
 | 0, _, _, _, _, _ => none
 | k + 1, o, b, l, la, i => if i < (o.length : Int) then (if 0 ≤ i then (if rd o i > la then (if l.length < 1000000000 then ((impl_LongestRising_1.f k o b (l ++ [i]) (wrap64 (i + 1)) (rd o i)).bind fun b2 => impl_LongestRising_1.l0 k o b2 l la (wrap64 (i + 1))) else none) else impl_LongestRising_1.l0 k o b l la (wrap64 (i + 1))) else none) else some b
end
theorem impl_LongestRising_1.mono_l : ∀ k, (∀ y0 y1 y2 y3 y4, LeO (impl_LongestRising_1.f k y0 y1 y2 y3 y4) (impl_LongestRising_1.f (k + 1) y0 y1 y2 y3 y4)) ∧ (∀ y0 y1 y2 y3 y4, LeO (impl_LongestRising_1.l0 k y0 y1 y2 y3 y4) (impl_LongestRising_1.l0 (k + 1) y0 y1 y2 y3 y4))
 | 0 => ⟨fun _ _ _ _ _ r h => by simp [impl_LongestRising_1.f] at h, fun _ _ _ _ _ r h => by simp [impl_LongestRising_1.l0] at h⟩
 | k + 1 => by
  obtain ⟨ih0, ih1⟩ := impl_LongestRising_1.mono_l k
  refine ⟨fun y0 y1 y2 y3 y4 => ?_, fun y0 y1 y2 y3 y4 => ?_⟩
  · simp only [impl_LongestRising_1.f]
    exact LeO.ite (ih1 _ _ _ _ _) (ih1 _ _ _ _ _)
  · rw [impl_LongestRising_1.l0, impl_LongestRising_1.l0]
    exact LeO.ite (LeO.ite (LeO.ite (LeO.ite (LeO.bind (ih0 _ _ _ _ _) (fun _ => ih1 _ _ _ _ _)) (LeO.none _)) (ih1 _ _ _ _ _)) (LeO.none _)) (LeO.refl _)
theorem impl_LongestRising_1.mono : ∀ a0 a1 a2 a3 a4 k, LeO (impl_LongestRising_1.f k a0 a1 a2 a3 a4) (impl_LongestRising_1.f (k + 1) a0 a1 a2 a3 a4) := fun _ _ _ _ _ k => (impl_LongestRising_1.mono_l k).1 _ _ _ _ _
/-- What the captured variables hold. -/
structure LRw (w0 w : World) (g3 g4 g5 : Nat) (Ao : Option Addr) (co : Nat) (o : List Int) (vb : Value) (b : List Int) : Prop where
  c3 : w.heap[g3]? = some (.cells #[vb] 22 (0, 0))
  c4 : w.heap[g4]? = some (.cells #[.slice Ao o.length co] 22 (0, 0))
  c5 : w.heap[g5]? = some (.cells #[.func (.func 35) #[] #[.pointer (some ⟨g3, 0, none⟩), .pointer (some ⟨g4, 0, none⟩), .pointer (some ⟨g5, 0, none⟩)]] 40 (0, 0))
  rb : Kd.R (Kd.int .i64) 3 w w0.heap.size (fun _ => True) vb b
  ro : Kd.C (Kd.int .i64) w Ao o.length o
  n4 : g4 ≠ g3
  n5 : g5 ≠ g3
theorem LRw.R_keep {w0 w w1 : World} {g3 : Nat} {vb v : Value} {l : List Int} (c3 : w.heap[g3]? = some (.cells #[vb] 22 (0, 0))) (h : Kd.R (Kd.int .i64) 3 w w0.heap.size (fun _ => True) v l) (hk : KeepBut w w1 g3 none) : Kd.R (Kd.int .i64) 3 w1 w0.heap.size (fun _ => True) v l :=
  Kd.R_mono (Kd.R_keep (Kd.R_types h c3 (by decide)) hk (fun _ hk => hk.2)) (fun _ _ => trivial)
theorem LRw.C_keep {w w1 : World} {g3 : Nat} {vb : Value} {A : Option Addr} {l : List Int} (c3 : w.heap[g3]? = some (.cells #[vb] 22 (0, 0))) (hv : ∀ x, vb ≠ .int .i64 x) (h : Kd.C (Kd.int .i64) w A l.length l) (hk : KeepBut w w1 g3 none) : Kd.C (Kd.int .i64) w1 A l.length l := by
  refine Kd.C_keep 0 h hk (fun ad hA hn he => ?_)
  obtain ⟨ad2, hA2, hc⟩ := Kd.at_int h 0 (Int.le_refl _) (by omega)
  rw [hA] at hA2
  obtain rfl := Option.some.inj hA2
  have hc2 : w.cell? ad = some (.int .i64 (rd l 0)) := hc
  unfold World.cell? at hc2
  rw [he, c3] at hc2
  simp only at hc2
  split at hc2
  · cases hc2
  · have hm := Array.mem_of_getElem? hc2
    simp only [List.mem_toArray, List.mem_singleton] at hm
    exact hv _ hm.symm
theorem LRw.vb_ne {w0 w : World} {vb : Value} {b : List Int} (h : Kd.R (Kd.int .i64) 3 w w0.heap.size (fun _ => True) vb b) : ∀ x, vb ≠ .int .i64 x := by
  obtain ⟨A, c, rfl⟩ := Kd.R_slice h
  intro x hx
  cases hx
theorem LRw.below {w0 w w1 : World} {g3 g4 g5 : Nat} {Ao : Option Addr} {co : Nat} {o : List Int} {vb : Value} {b : List Int} (h : LRw w0 w g3 g4 g5 Ao co o vb b) (hb : Below w.heap.size w w1) : LRw w0 w1 g3 g4 g5 Ao co o vb b :=
  ⟨blk_below h.c3 hb, blk_below h.c4 hb, blk_below h.c5 hb, Kd.R_below h.rb hb, Kd.C_below h.ro hb, h.n4, h.n5⟩
theorem LRw.set_ {w0 w : World} {g3 g4 g5 : Nat} {Ao : Option Addr} {co : Nat} {o : List Int} {vb : Value} {b : List Int} (h : LRw w0 w g3 g4 g5 Ao co o vb b) {v : Value} {l : List Int} (hl : Kd.R (Kd.int .i64) 3 w w0.heap.size (fun _ => True) v l) : LRw w0 (w.setCell ⟨g3, 0, none⟩ v) g3 g4 g5 Ao co o v l := by
  have hk : KeepBut w (w.setCell ⟨g3, 0, none⟩ v) g3 none := (KeepBut.refl w g3 none).set_ 0 v
  have h3 := blk_set h.c3 0 v
  exact ⟨by simpa using h3, hk.blk h.c4 h.n4 (by simp), hk.blk h.c5 h.n5 (by simp), LRw.R_keep h.c3 hl hk, LRw.C_keep h.c3 (LRw.vb_ne h.rb) h.ro hk, h.n4, h.n5⟩
theorem LRw.new1 {w w2 : World} {i : Int} {t : TypeId} (hb : Below (w.alloc (.cells #[.int .i64 i] t)).drew.heap.size (w.alloc (.cells #[.int .i64 i] t)).drew w2) : w2.cell? ⟨w.heap.size, 0, none⟩ = some (.int .i64 i) := by
  have h : (w.alloc (.cells #[.int .i64 i] t)).drew.cell? ⟨w.heap.size, 0, none⟩ = some (.int .i64 i)  := (World.cell?_alloc_at #[.int .i64 i] t w.heap.size 0 rfl).trans rfl
  exact (hb.cell (World.block_lt_of_cell? _ _ h)).trans h
theorem LRw.row1 {w : World} {b : Nat} {i : Int} (h : w.cell? ⟨b, 0, none⟩ = some (.int .i64 i)) : ReadsRow (fun (x : Int) cs => cs = [.int .i64 x]) 1 w (some ⟨b, 0, none⟩) 1 [i] := by
  refine ⟨rfl, by omega, fun _ => ⟨_, rfl, fun j p hj => ⟨[.int .i64 p], rfl, rfl, fun j' u hu => ?_⟩⟩⟩
  cases j with
  | succ j => simp at hj
  | zero =>
    obtain rfl := Option.some.inj (show some i = some p by simpa using hj)
    cases j' with
    | succ j' => simp at hu
    | zero =>
      obtain rfl := Option.some.inj (show some (Value.int .i64 i) = some u by simpa using hu)
      simpa [Addr.add] using h
def impl_LongestRising.f (k : Nat) (l0 : List Int) : Option (List Int × Bool) := (impl_IsOrder.f l0).bind fun t => (if t = true then ((impl_LongestRising_1.f k l0 [] [] 0 0).bind fun b => some (b, true)) else some ([], false))
theorem impl_LongestRising.mono : ∀ a0 k, LeO (impl_LongestRising.f k a0) (impl_LongestRising.f (k + 1) a0) := fun a0 k => by
  unfold impl_LongestRising.f
  exact LeO.bind (LeO.refl _) (fun _ => LeO.ite (LeO.bind (impl_LongestRising_1.mono _ _ _ _ _ _) (fun _ => LeO.refl _)) (LeO.refl _))
/-- What a call keeps: all blocks but g, and all below B. -/
def LK (B g : Nat) (w w' : World) : Prop := KeepBut w w' g none ∧ Below B w w'
theorem LK.refl (B g : Nat) (w : World) : LK B g w w := ⟨KeepBut.refl _ _ _, Below.refl _ _⟩
theorem LK.set_ {B g : Nat} (w : World) (v : Value) (h : B ≤ g) : LK B g w (w.setCell ⟨g, 0, none⟩ v) := ⟨(KeepBut.refl w g none).set_ 0 v, (Below.refl _ _).setCell h v⟩
theorem LK.below {B g : Nat} {w w1 : World} (h : Below w.heap.size w w1) (hB : B ≤ w.heap.size) : LK B g w w1 := ⟨KeepBut.of_below h g none, h.mono hB⟩
theorem LK.trans {B g : Nat} {w w1 w2 : World} (h : LK B g w w1) (k : LK B g w1 w2) : LK B g w w2 := ⟨h.1.trans k.1 (.inl rfl), h.2.trans k.2⟩
theorem LRw.start (w w2 : World) (A0 : Option Addr) (c0 : Nat) (l0 : List Int) (hb : Below (w.alloc (.cells #[.slice A0 l0.length c0] 22)).heap.size (w.alloc (.cells #[.slice A0 l0.length c0] 22)) w2) (hr : Kd.C (Kd.int .i64) w A0 l0.length l0) :
    w.heap.size ≤ w2.heap.size + 1 ∧ LRw w (((w2.alloc (.cells #[] 3)).alloc (.cells #[.slice (some ⟨w2.heap.size, 0, none⟩) 0 0] 22)).alloc (.cells #[.func (.func 35) #[] #[.pointer (some ⟨w2.heap.size + 1, 0, none⟩), .pointer (some ⟨w.heap.size, 0, none⟩), .pointer (some ⟨w2.heap.size + 1 + 1, 0, none⟩)]] 40)) (w2.heap.size + 1) w.heap.size (w2.heap.size + 1 + 1) A0 c0 l0 (.slice (some ⟨w2.heap.size, 0, none⟩) 0 0) [] ∧ Below w.heap.size w (((w2.alloc (.cells #[] 3)).alloc (.cells #[.slice (some ⟨w2.heap.size, 0, none⟩) 0 0] 22)).alloc (.cells #[.func (.func 35) #[] #[.pointer (some ⟨w2.heap.size + 1, 0, none⟩), .pointer (some ⟨w.heap.size, 0, none⟩), .pointer (some ⟨w2.heap.size + 1 + 1, 0, none⟩)]] 40)) := by
  have hs0 : (w.alloc (.cells #[.slice A0 l0.length c0] 22)).heap.size = w.heap.size + 1 := by unfold World.alloc; simp
  have hs2 : w.heap.size + 1 ≤ w2.heap.size := by have := below_size hb; omega
  have hb2 : Below w.heap.size w w2 := below_step (below_alloc (Below.refl _ _) _) hb
  have h4 : w2.heap[w.heap.size]? = some (.cells #[.slice A0 l0.length c0] 22 (0, 0)) := blk_below (blk_new w _) hb
  generalize hA : w2.alloc (.cells #[] 3) = Wa
  have sA : Wa.heap.size = w2.heap.size + 1 := by subst hA; unfold World.alloc; simp
  have nA : Wa.heap[w2.heap.size]? = some (.cells #[] 3 (0, 0)) := by subst hA; exact blk_new w2 _
  have bA : Below w2.heap.size w2 Wa := by subst hA; exact below_alloc (Below.refl _ _) _
  generalize hB : Wa.alloc (.cells #[.slice (some ⟨w2.heap.size, 0, none⟩) 0 0] 22) = Wb
  have sB : Wb.heap.size = w2.heap.size + 1 + 1 := by subst hB; unfold World.alloc; simp [sA]
  have nB : Wb.heap[w2.heap.size + 1]? = some (.cells #[.slice (some ⟨w2.heap.size, 0, none⟩) 0 0] 22 (0, 0)) := by subst hB; rw [← sA]; exact blk_new Wa _
  have bB : Below Wa.heap.size Wa Wb := by subst hB; exact below_alloc (Below.refl _ _) _
  generalize hC : Wb.alloc (.cells #[.func (.func 35) #[] #[.pointer (some ⟨w2.heap.size + 1, 0, none⟩), .pointer (some ⟨w.heap.size, 0, none⟩), .pointer (some ⟨w2.heap.size + 1 + 1, 0, none⟩)]] 40) = Wc
  have nC : Wc.heap[w2.heap.size + 1 + 1]? = some (.cells #[.func (.func 35) #[] #[.pointer (some ⟨w2.heap.size + 1, 0, none⟩), .pointer (some ⟨w.heap.size, 0, none⟩), .pointer (some ⟨w2.heap.size + 1 + 1, 0, none⟩)]] 40 (0, 0)) := by subst hC; rw [← sB]; exact blk_new Wb _
  have bC : Below Wb.heap.size Wb Wc := by subst hC; exact below_alloc (Below.refl _ _) _
  have hbb : Below w.heap.size w Wc := below_step (below_step (below_step hb2 bA) bB) bC
  have nAc : Wc.heap[w2.heap.size]? = some (.cells #[] 3 (0, 0)) := blk_below (blk_below nA bB) bC
  refine ⟨by omega, ⟨blk_below nB bC, blk_below (blk_below (blk_below h4 bA) bB) bC, nC, ?_, Kd.C_below hr hbb, by omega, by omega⟩, hbb⟩
  exact ⟨fun _ _ => trivial, [], ⟨rfl, .inr ⟨w2.heap.size, 0, #[], rfl, by omega, nAc, Nat.le_refl _, by simp, rfl, rfl⟩⟩, Reps.none _ _⟩
set_option maxHeartbeats 8000000 in
set_option maxRecDepth 100000 in
theorem impl_LongestRising_1.calls (w0 : World) (g3 g4 g5 : Nat) (Ao : Option Addr) (co : Nat) (o : List Int) (hco : o.length ≤ co) (hg3 : w0.heap.size ≤ g3) (k : Nat) : ∀ (vl : Value) (l : List Int) (fr la : Int) (vb : Value) (b r : List Int) (w : World) (_ : LRw w0 w g3 g4 g5 Ao co o vb b) (_ : Kd.R (Kd.int .i64) 3 w w0.heap.size (fun _ => True) vl l) (_ : w0.heap.size ≤ w.heap.size) (_ : impl_LongestRising_1.f k o b l fr la = some r),
  Calls Try.prog 35 #[vl, .int .i64 fr, .int .i64 la, .pointer (some ⟨g3, 0, none⟩), .pointer (some ⟨g4, 0, none⟩), .pointer (some ⟨g5, 0, none⟩)] w fun e w' => e = .returned (.tuple #[]) ∧ (∃ v : Value, LRw w0 w' g3 g4 g5 Ao co o v r) ∧ LK w0.heap.size g3 w w' := by
  induction k using Nat.strongRecOn with
  | _ k ih =>
  intro vl l fr la vb b r w hw hl hsz h
  cases k with
  | zero => exact absurd h (by simp [impl_LongestRising_1.f])
  | succ k =>
  simp only [impl_LongestRising_1.f] at h
  obtain ⟨Ab, cb, rfl⟩ := Kd.R_slice hw.rb
  obtain ⟨Al, cl, rfl⟩ := Kd.R_slice hl
  have hc3 : w.cell? ⟨g3, 0, none⟩ = some (.slice Ab b.length cb) := blk_cell hw.c3 0
  have hf3 := blk_frozen hw.c3 0
  -- what follows the first test: the loop, from a world and a best list on
  obtain ⟨b1, vb1, W, hW, hH, hK, hsel⟩ : ∃ (b1 : List Int) (vb1 : Value) (W : World), LRw w0 W g3 g4 g5 Ao co o vb1 b1 ∧ impl_LongestRising_1.l0 k o b1 l la fr = some r ∧ LK w0.heap.size g3 w W ∧ ((¬ (l.length : Int) > (b.length : Int) ∧ W = w) ∨ ((l.length : Int) > (b.length : Int) ∧ W = w.setCell ⟨g3, 0, none⟩ (.slice Al l.length cl))) := by
    by_cases c : (l.length : Int) > (b.length : Int)
    · rw [if_pos c] at h
      exact ⟨l, _, _, hw.set_ hl, h, LK.set_ w _ hg3, .inr ⟨c, rfl⟩⟩
    · rw [if_neg c] at h
      exact ⟨b, _, w, hw, h, LK.refl _ g3 w, .inl ⟨c, rfl⟩⟩
  have hlW : Kd.R (Kd.int .i64) 3 W w0.heap.size (fun _ => True) (.slice Al l.length cl) l := LRw.R_keep hw.c3 hl hK.1
  have hszW : w0.heap.size ≤ W.heap.size := Nat.le_trans hsz hK.1.1
  rcases hsel with ⟨c, rfl⟩ | ⟨c, hWe⟩
  · have hd : decide (b.length < l.length) = false := decide_eq_false (by omega)
    clear h c
    go_enter Try.func35, Try.ntmps35
    go_wp2
    go_loopg [9] k (fun kq v9 w' => ∃ (b2 : List Int) (i : Int), v9 = .int .i64 i ∧ Aside0 (impl_LongestRising_1.l0 kq o b2 l la i = some r) ∧ Aside0 (kq ≤ k) ∧ Aside0 (∃ v2, LRw w0 w' g3 g4 g5 Ao co o v2 b2) ∧ Aside0 (LK w0.heap.size g3 W w'))
    case atStart => exact ⟨b1, fr, rfl, ⟨hH⟩, ⟨Nat.le_refl _⟩, ⟨_, hW⟩, ⟨LK.refl _ _ _⟩⟩
    case round =>
      obtain ⟨b2, i, rfl, HA, HK1, HL, HKB⟩ := hrel
      cases gk with
      | zero => exact absurd HA.out (by simp [impl_LongestRising_1.l0])
      | succ k1 =>
        have H := HA.out
        clear HA hc3 hf3
        simp only [impl_LongestRising_1.l0] at H
        obtain ⟨v2, hv2⟩ := HL.out
        have c4 := blk_cell hv2.c4 0
        have c5 := blk_cell hv2.c5 0
        simp only [List.getElem?_toArray, List.getElem?_cons_zero] at c4 c5
        by_cases ci : i < (o.length : Int)
        · rw [if_pos ci] at H
          have cid : decide (i < (o.length : Int)) = true := decide_eq_true ci
          by_cases c0 : 0 ≤ i
          · rw [if_pos c0] at H
            have hro := hv2.ro
            obtain ⟨ad, hA, hx⟩ := Kd.at_int hro i c0 ci
            subst hA
            have c0d := eq_true c0
            have cidd := eq_true ci
            by_cases cl : rd o i > la
            · rw [if_pos cl] at H
              have cld : decide (la < rd o i) = true := decide_eq_true cl
              by_cases cn : l.length < 1000000000
              rotate_left
              · rw [if_neg cn] at H
                exact absurd H (by simp)
              rw [if_pos cn] at H
              have HCN : Aside0 (slices_Clone_int.f l = some l) := ⟨by unfold slices_Clone_int.f; simp only [Option.bind_some, List.nil_append, List.length_nil, Nat.zero_add]; exact if_pos (by omega)⟩
              obtain ⟨ji, hji⟩ : ∃ j_ : Int, wrap64 (i + 1) = j_ := ⟨_, rfl⟩
              have hjiw : IntKind.i64.wrap (i + 1) = ji := (i64_w _).trans hji
              rw [hji] at H
              obtain ⟨b3, hb3, H⟩ := Option.bind_eq_some_iff.mp H
              have H' := am H
              have HB3 := am hb3
              have HV := am hv2
              have HLR := am (LRw.R_keep hW.c3 hlW HKB.out.1)
              have IH := am ih
              have HJ := am hji
              have hroom : (l.length + 1) * 8 ≤ 140737488355328 := by omega
              have hsize : w0.heap.size ≤ wr.heap.size := Nat.le_trans hszW HKB.out.1.1
              have HKA := am hK
              have HW := am hW
              have HHW := am hw
              clear H hb3 hv2 hro cl ih hji hW hw hH hl hlW cn hK
              clear H
              have HLC := am (Kd.R_reads' HLR.out).2.2
              have HCL := am (Kd.R_reads' HLR.out).2.1
              obtain ⟨i0, hi0, hz0, hz1, hz2⟩ := info_parts info3
              go_upto_region 6 with (fail)
              go_region_held3 (fun w' => w'.cell? ⟨g5, 0, none⟩ = some (.func (.func 35) #[] #[.pointer (some ⟨g3, 0, none⟩), .pointer (some ⟨g4, 0, none⟩), .pointer (some ⟨g5, 0, none⟩)]) ∧ w'.cell? ⟨g4, 0, none⟩ = some (.slice (some ad) o.length co) ∧ w'.cell? (ad.add i.toNat) = some (.int .i64 (rd o i)))
                (first | go_keep | (go_split_ands; refine ⟨?_, ?_, ?_⟩ <;> first | exact (hb.cell (World.block_lt_of_cell? _ _ (by assumption))).trans (by assumption) | assumption))
                (first
                  | (go_at_call 36; (with_reducible refine (slices_Clone_int.calls _ _ l l _ ?side1 HCL.out HCN.out).mono ?_); (case side1 => repeat (first | exact HLC.out | (with_reducible refine Kd.C_alloc ?_ _) | (with_reducible refine Kd.C_drewN ?_ _) | (with_reducible refine Kd.C_drew ?_))); rintro e w2 ⟨v, rfl, ho1, hb1⟩; have hb : Below wr.heap.size wr w2 := below_step (by first | exact below_drew (Below.refl _ _) | exact below_drew (below_alloc (Below.refl _ _) _) | exact below_alloc (below_drew (Below.refl _ _)) _) hb1; have ho := Kd.R_lower ho1 (show wr.heap.size ≤ _ by first | exact Nat.le_refl _ | exact (below_size (below_alloc (Below.refl _ _) _) : wr.heap.size ≤ (wr.alloc _).heap.size)); (try have hcl : w2.cell? ⟨wr.heap.size, 0, none⟩ = some (.int .i64 i) := LRw.new1 hb1); clear ho1 hb1)
                  | (go_at_call 35; (with_reducible refine (IH.out k1 ?sk v1 (l ++ [i]) ji (rd o i) v2 b2 b3 w1 ?sw ?sl ?ss HB3.out).mono ?_); (case sk => have := HK1.out; omega); (case sw => exact HV.out.below hb); (case sl => exact Kd.R_lower ho hsize); (case ss => exact Nat.le_trans hsize (below_size hb)); rintro e w3 ⟨rfl, ⟨v3, hv3⟩, hk3⟩; have HV3 := am hv3; have HK3 := am ((HKB.out.trans (LK.below hb hsize)).trans hk3); have h34 := blk_cell hv3.c4 0; have h35 := blk_cell hv3.c5 0; simp only [List.getElem?_toArray, List.getElem?_cons_zero] at h34 h35; have h3x := (by obtain ⟨ad_, hA_, hx_⟩ := Kd.at_int hv3.ro i c0 ci; obtain rfl := Option.some.inj hA_; exact hx_ : w3.cell? (ad.add i.toNat) = some (.int .i64 (rd o i))); clear hv3 hk3 hb ho)
                  | (refine Kd.R_append_step (Kd.int .i64) (w0 := wr) wr.heap.size (by rfl) _ _ 22 3 (.int .i64 0) 8 rfl Try.underlying22 info3 rfl (by decide) (by omega) v l i [.int .i64 i] (fun _ => True) (fun _ => False) rfl rfl rfl (fun _ hk => hk.elim) (fun _ _ => trivial) ho hb (below_size hb) hroom ?_; clear ho hb; intro v1 w1 ho hb hg_ hat_; clear hg_ hat_)
                  | (refine Kd.R_append_rows_step (Kd.int .i64) (Rr := fun (x : Int) cs => cs = [.int .i64 x]) (w0 := wr) wr.heap.size (by rfl) _ _ 22 3 (.int .i64 0) 8 rfl Try.underlying22 info3 rfl (by decide) (by omega) v l [i] _ _ _ (fun _ => True) (fun _ => False) rfl rfl ho (LRw.row1 hcl) (fun _ _ h => h) (fun _ hk => hk.elim) (fun _ _ => trivial) hb (below_size hb) hroom ?_; clear ho hb hcl; intro v1 w1 ho hb hg_ hat_; clear hg_ hat_)
                  | fail)
              all_goals go_wp2
              all_goals go_roundg k1
              case measure => exact Nat.lt_succ_self _
              case rel => exact ⟨b3, ji, rfl, H', ⟨by have := HK1.out; omega⟩, ⟨v3, HV3.out⟩, HK3⟩
              case measure => exact Nat.lt_succ_self _
              case rel => exact ⟨b3, ji, rfl, H', ⟨by have := HK1.out; omega⟩, ⟨v3, HV3.out⟩, HK3⟩
            · rw [if_neg cl] at H
              have cld : decide (la < rd o i) = false := decide_eq_false cl
              have H' := am H
              have HV := am hv2
              clear H hv2 hro cl
              go_wp2
              go_roundg k1
              case measure => exact Nat.lt_succ_self _
              case rel => exact ⟨b2, wrap64 (i + 1), by first | rfl | (simp; done) | (simp [*]; done), H', ⟨by have := HK1.out; omega⟩, ⟨v2, HV.out⟩, HKB⟩
          · rw [if_neg c0] at H
            exact absurd H (by simp)
        · rw [if_neg ci] at H
          have cid : decide (i < (o.length : Int)) = false := decide_eq_false ci
          obtain rfl := Option.some.inj H
          clear H
          go_wp2
          (obtain ⟨v2, hv2⟩ := HL.out; exact ⟨rfl, .tuple #[], by first | rfl | (unfold results; rfl) | (simp [results, Try.f35]; done), rfl, ⟨v2, hv2⟩, HKB.out⟩)
  · have hd : decide (b.length < l.length) = true := decide_eq_true (by omega)
    clear h c
    go_enter Try.func35, Try.ntmps35
    go_wp2
    rw [← hWe]
    go_loopg [9] k (fun kq v9 w' => ∃ (b2 : List Int) (i : Int), v9 = .int .i64 i ∧ Aside0 (impl_LongestRising_1.l0 kq o b2 l la i = some r) ∧ Aside0 (kq ≤ k) ∧ Aside0 (∃ v2, LRw w0 w' g3 g4 g5 Ao co o v2 b2) ∧ Aside0 (LK w0.heap.size g3 W w'))
    case atStart => exact ⟨b1, fr, rfl, ⟨hH⟩, ⟨Nat.le_refl _⟩, ⟨_, hW⟩, ⟨LK.refl _ _ _⟩⟩
    case round =>
      obtain ⟨b2, i, rfl, HA, HK1, HL, HKB⟩ := hrel
      cases gk with
      | zero => exact absurd HA.out (by simp [impl_LongestRising_1.l0])
      | succ k1 =>
        have H := HA.out
        clear HA hc3 hf3
        simp only [impl_LongestRising_1.l0] at H
        obtain ⟨v2, hv2⟩ := HL.out
        have c4 := blk_cell hv2.c4 0
        have c5 := blk_cell hv2.c5 0
        simp only [List.getElem?_toArray, List.getElem?_cons_zero] at c4 c5
        by_cases ci : i < (o.length : Int)
        · rw [if_pos ci] at H
          have cid : decide (i < (o.length : Int)) = true := decide_eq_true ci
          by_cases c0 : 0 ≤ i
          · rw [if_pos c0] at H
            have hro := hv2.ro
            obtain ⟨ad, hA, hx⟩ := Kd.at_int hro i c0 ci
            subst hA
            have c0d := eq_true c0
            have cidd := eq_true ci
            by_cases cl : rd o i > la
            · rw [if_pos cl] at H
              have cld : decide (la < rd o i) = true := decide_eq_true cl
              by_cases cn : l.length < 1000000000
              rotate_left
              · rw [if_neg cn] at H
                exact absurd H (by simp)
              rw [if_pos cn] at H
              have HCN : Aside0 (slices_Clone_int.f l = some l) := ⟨by unfold slices_Clone_int.f; simp only [Option.bind_some, List.nil_append, List.length_nil, Nat.zero_add]; exact if_pos (by omega)⟩
              obtain ⟨ji, hji⟩ : ∃ j_ : Int, wrap64 (i + 1) = j_ := ⟨_, rfl⟩
              have hjiw : IntKind.i64.wrap (i + 1) = ji := (i64_w _).trans hji
              rw [hji] at H
              obtain ⟨b3, hb3, H⟩ := Option.bind_eq_some_iff.mp H
              have H' := am H
              have HB3 := am hb3
              have HV := am hv2
              have HLR := am (LRw.R_keep hW.c3 hlW HKB.out.1)
              have IH := am ih
              have HJ := am hji
              have hroom : (l.length + 1) * 8 ≤ 140737488355328 := by omega
              have hsize : w0.heap.size ≤ wr.heap.size := Nat.le_trans hszW HKB.out.1.1
              have HKA := am hK
              have HW := am hW
              have HHW := am hw
              clear H hb3 hv2 hro cl ih hji hW hw hH hl hlW cn hK
              clear H
              have HLC := am (Kd.R_reads' HLR.out).2.2
              have HCL := am (Kd.R_reads' HLR.out).2.1
              obtain ⟨i0, hi0, hz0, hz1, hz2⟩ := info_parts info3
              go_upto_region 6 with (fail)
              go_region_held3 (fun w' => w'.cell? ⟨g5, 0, none⟩ = some (.func (.func 35) #[] #[.pointer (some ⟨g3, 0, none⟩), .pointer (some ⟨g4, 0, none⟩), .pointer (some ⟨g5, 0, none⟩)]) ∧ w'.cell? ⟨g4, 0, none⟩ = some (.slice (some ad) o.length co) ∧ w'.cell? (ad.add i.toNat) = some (.int .i64 (rd o i)))
                (first | go_keep | (go_split_ands; refine ⟨?_, ?_, ?_⟩ <;> first | exact (hb.cell (World.block_lt_of_cell? _ _ (by assumption))).trans (by assumption) | assumption))
                (first
                  | (go_at_call 36; (with_reducible refine (slices_Clone_int.calls _ _ l l _ ?side1 HCL.out HCN.out).mono ?_); (case side1 => repeat (first | exact HLC.out | (with_reducible refine Kd.C_alloc ?_ _) | (with_reducible refine Kd.C_drewN ?_ _) | (with_reducible refine Kd.C_drew ?_))); rintro e w2 ⟨v, rfl, ho1, hb1⟩; have hb : Below wr.heap.size wr w2 := below_step (by first | exact below_drew (Below.refl _ _) | exact below_drew (below_alloc (Below.refl _ _) _) | exact below_alloc (below_drew (Below.refl _ _)) _) hb1; have ho := Kd.R_lower ho1 (show wr.heap.size ≤ _ by first | exact Nat.le_refl _ | exact (below_size (below_alloc (Below.refl _ _) _) : wr.heap.size ≤ (wr.alloc _).heap.size)); (try have hcl : w2.cell? ⟨wr.heap.size, 0, none⟩ = some (.int .i64 i) := LRw.new1 hb1); clear ho1 hb1)
                  | (go_at_call 35; (with_reducible refine (IH.out k1 ?sk v1 (l ++ [i]) ji (rd o i) v2 b2 b3 w1 ?sw ?sl ?ss HB3.out).mono ?_); (case sk => have := HK1.out; omega); (case sw => exact HV.out.below hb); (case sl => exact Kd.R_lower ho hsize); (case ss => exact Nat.le_trans hsize (below_size hb)); rintro e w3 ⟨rfl, ⟨v3, hv3⟩, hk3⟩; have HV3 := am hv3; have HK3 := am ((HKB.out.trans (LK.below hb hsize)).trans hk3); have h34 := blk_cell hv3.c4 0; have h35 := blk_cell hv3.c5 0; simp only [List.getElem?_toArray, List.getElem?_cons_zero] at h34 h35; have h3x := (by obtain ⟨ad_, hA_, hx_⟩ := Kd.at_int hv3.ro i c0 ci; obtain rfl := Option.some.inj hA_; exact hx_ : w3.cell? (ad.add i.toNat) = some (.int .i64 (rd o i))); clear hv3 hk3 hb ho)
                  | (refine Kd.R_append_step (Kd.int .i64) (w0 := wr) wr.heap.size (by rfl) _ _ 22 3 (.int .i64 0) 8 rfl Try.underlying22 info3 rfl (by decide) (by omega) v l i [.int .i64 i] (fun _ => True) (fun _ => False) rfl rfl rfl (fun _ hk => hk.elim) (fun _ _ => trivial) ho hb (below_size hb) hroom ?_; clear ho hb; intro v1 w1 ho hb hg_ hat_; clear hg_ hat_)
                  | (refine Kd.R_append_rows_step (Kd.int .i64) (Rr := fun (x : Int) cs => cs = [.int .i64 x]) (w0 := wr) wr.heap.size (by rfl) _ _ 22 3 (.int .i64 0) 8 rfl Try.underlying22 info3 rfl (by decide) (by omega) v l [i] _ _ _ (fun _ => True) (fun _ => False) rfl rfl ho (LRw.row1 hcl) (fun _ _ h => h) (fun _ hk => hk.elim) (fun _ _ => trivial) hb (below_size hb) hroom ?_; clear ho hb hcl; intro v1 w1 ho hb hg_ hat_; clear hg_ hat_)
                  | fail)
              all_goals go_wp2
              all_goals go_roundg k1
              case measure => exact Nat.lt_succ_self _
              case rel => exact ⟨b3, ji, rfl, H', ⟨by have := HK1.out; omega⟩, ⟨v3, HV3.out⟩, HK3⟩
              case measure => exact Nat.lt_succ_self _
              case rel => exact ⟨b3, ji, rfl, H', ⟨by have := HK1.out; omega⟩, ⟨v3, HV3.out⟩, HK3⟩
            · rw [if_neg cl] at H
              have cld : decide (la < rd o i) = false := decide_eq_false cl
              have H' := am H
              have HV := am hv2
              clear H hv2 hro cl
              go_wp2
              go_roundg k1
              case measure => exact Nat.lt_succ_self _
              case rel => exact ⟨b2, wrap64 (i + 1), by first | rfl | (simp; done) | (simp [*]; done), H', ⟨by have := HK1.out; omega⟩, ⟨v2, HV.out⟩, HKB⟩
          · rw [if_neg c0] at H
            exact absurd H (by simp)
        · rw [if_neg ci] at H
          have cid : decide (i < (o.length : Int)) = false := decide_eq_false ci
          obtain rfl := Option.some.inj H
          clear H
          go_wp2
          (obtain ⟨v2, hv2⟩ := HL.out; have hkk := hK.trans HKB.out; exact ⟨rfl, .tuple #[], by first | rfl | (unfold results; rfl) | (simp [results, Try.f35]; done), rfl, ⟨v2, hv2⟩, hkk⟩)
set_option maxHeartbeats 8000000 in
set_option maxRecDepth 100000 in
theorem impl_LongestRising.calls (k : Nat) (A0 : Option Addr) (c0 : Nat) (l0 r1 : List Int) (r2 : Bool) (w : World) (hr0 : Kd.C (Kd.int .i64) w A0 l0.length l0) (hc0 : l0.length ≤ c0) (h : impl_LongestRising.f k l0 = some (r1, r2)) :
  Calls Try.prog 15 #[.slice A0 l0.length c0] w fun e w' => ∃ v0_ : Value, e = .returned (.tuple #[v0_, .bool r2]) ∧ Kd.R (Kd.int .i64) 3 w' w.heap.size (fun _ => True) v0_ r1 ∧ Below w.heap.size w w' := by
  unfold impl_LongestRising.f at h
  obtain ⟨t, ht, h⟩ := Option.bind_eq_some_iff.1 h
  have HR0 := am hr0
  have HT := am ht
  cases t with
  | false =>
    obtain ⟨rfl, rfl⟩ := Prod.mk.inj (Option.some.inj h)
    clear h hr0 ht
    go_enter Try.func15, Try.ntmps15
    go_wp2_with (go_at_call 34; refine (impl_IsOrder.calls A0 c0 l0 _ _ ?s hc0 HT.out).mono ?_; (case s => exact Kd.C_alloc HR0.out _); rintro e w2 ⟨rfl, hb⟩)
    exact ⟨rfl, .tuple #[.slice none 0 0, .bool false], by first | rfl | (unfold results; rfl) | (simp [results, Try.f15]; done), _, rfl, Kd.R_nil _ _ _ _ _, below_step (below_alloc (Below.refl _ _) _) hb⟩
  | true =>
    rw [if_pos rfl] at h
    obtain ⟨b, hb1, h⟩ := Option.bind_eq_some_iff.1 h
    obtain ⟨rfl, rfl⟩ := Prod.mk.inj (Option.some.inj h)
    have HB1 := am hb1
    clear h hr0 ht hb1
    go_enter Try.func15, Try.ntmps15
    go_wp2_with (first | (go_at_call 34; refine (impl_IsOrder.calls A0 c0 l0 _ _ ?s hc0 HT.out).mono ?_; (case s => exact Kd.C_alloc HR0.out _); rintro e w2 ⟨rfl, hb⟩) | (go_at_call 35; have HST := am (LRw.start w w2 A0 c0 l0 hb HR0.out); refine (impl_LongestRising_1.calls w (w2.heap.size + 1) w.heap.size (w2.heap.size + 1 + 1) A0 c0 l0 hc0 HST.out.1 k _ [] 0 0 _ [] b _ HST.out.2.1 (Kd.R_nil _ _ _ _ _) (below_size HST.out.2.2) HB1.out).mono ?_; rintro e w3 ⟨rfl, ⟨v, hv⟩, hk⟩; have hc3 := blk_cell hv.c3 0; simp only [List.getElem?_toArray, List.getElem?_cons_zero] at hc3))
    exact ⟨rfl, .tuple #[v, .bool true], by first | rfl | (unfold results; rfl) | (simp [results, Try.f15]; done), v, rfl, hv.rb, HST.out.2.2.trans hk.2⟩
end Go.Proofs.Ytfegbmlcbdjcgaa.X
