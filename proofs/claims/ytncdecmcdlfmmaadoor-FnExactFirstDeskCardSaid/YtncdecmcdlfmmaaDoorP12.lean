import Derived.Test.YtncdecmcdlfmmaaDoorP5
import Derived.Deep.RegionLaw
import Derived.Laws.CopyOwn
import Derived.RangeFuncNested
import Derived.RangeFuncBound
import Derived.RangeFuncCalls
import Derived.RangeFuncLeaves
import Derived.RangeFuncWrites
import Derived.Shelf.Abstract
import Derived.Shelf.RegionOpen
import Derived.WalkKit
import Derived.OwnWalkIn
import Derived.TacticsInMore
import Derived.LoopNIn
import Derived.LoopIn
import Derived.Sort.LoopGhostIn
import Derived.Sort.CutIn
import Derived.OrdersIn
import Derived.TacticsIn
section
/- slices.Chunk by threes: its iterator; a region that draws, in a round, append among its operations; a struct of two cells. -/
--! fn slices.Chunk[[]int,int]|slices_Chunk|making
--! uses
namespace Go.Proofs.YtncdecmcdlfmmaaDoor.X
open Go.Proofs.YtncdecmcdlfmmaaDoor.Sq Go.RowKit Go.Proofs.YtncdecmcdlfmmaaDoorW.PrintWords Go.Proofs.YtncdecmcdlfmmaaDoorW.PrintLast Go.Proofs.YtncdecmcdlfmmaaDoorW.PrintMore
attribute [local go_sem] max2_int min2_int max_two min_two max_three min_three max_four min_four   -- for this text's walks alone
set_option linter.unusedVariables false
set_option linter.unusedSimpArgs false
attribute [local go_sem] Oper.semAt_some
def CkBeside (g B : Nat) (W W' : World) : Prop := ∀ k, k < B → k ≠ g → W'.heap[k]? = W.heap[k]?
theorem CkBeside.refl (g B : Nat) (W : World) : CkBeside g B W W := fun _ _ _ => rfl
theorem CkBeside.trans {g B : Nat} {U V W : World} (h : CkBeside g B U V) (k : CkBeside g B V W) : CkBeside g B U W := fun i hi hn => (k i hi hn).trans (h i hi hn)
theorem CkBeside.cell {g B : Nat} {W W' : World} (h : CkBeside g B W W') {p : Addr} (hp : p.block < B) (hn : p.block ≠ g) : W'.cell? p = W.cell? p := World.cell?_of_block (h _ hp hn)
theorem ck_beside_b {g : Nat} {w : World} (W : World) (l : Nat) (o o' : Obj) (hl : w.heap.size ≤ l) (h : W.heap[l]? = some o) (_ : o.isCells = false) (_ : o.isWalk = false) : CkBeside g w.heap.size W (W.putObj l o') :=
  fun k hk _ => World.putObj_heap_other (by omega)
theorem CkBeside.of_grown {g B : Nat} {W W' : World} (h : W.grownBy W' (some g)) (hB : B ≤ W.heap.size) : CkBeside g B W W' := fun k hk hn => h.block k (by omega) (fun e => hn (by cases e; rfl))
def ckCallee : Callee → Bool
 | .builtin .append => true
 | _ => false
/-- An operation that calls nothing (append aside) and puts nothing off. -/
def ckMildOp : Op → Bool
 | .move _ => true
 | .assign _ => true
 | .load _ _ => true
 | .store _ _ _ => true
 | .indexAddr _ _ _ => true
 | .fieldAddr _ _ _ => true
 | .build _ _ => true
 | .buildSlice _ _ _ => true
 | .call c => ckCallee c.callee
 | _ => false
def ckMildRes : Result Next → Prop
 | .ok (.value _) _ => True
 | .ok .skip _ => True
 | .halt _ _ => True
 | _ => False
theorem ck_mild_v {P : Program} {w : World} (s : Sem Value) : ckMildRes ((do pure (Next.value (← s)) : Sem Next).run P w) := by
  rw [Sem.run_bind]
  generalize s.run P w = r
  cases r <;> simp [Result.andThen, ckMildRes, Sem.run_pure]
theorem ck_mild_u {P : Program} {w : World} (s : Sem Unit) : ckMildRes ((do s; pure Next.skip : Sem Next).run P w) := by
  rw [Sem.run_bind]
  generalize s.run P w = r
  cases r <;> simp [Result.andThen, ckMildRes, Sem.run_pure]
theorem ck_mild_callee {c : Callee} (h : ckCallee c = true) : c = .builtin .append := by
  unfold ckCallee at h
  split at h
  · rfl
  · cases h
theorem ck_mild_run {P : Program} {w : World} (ρ : Operand → Value) (o : Oper) (h : ckMildOp o.op = true) : ckMildRes ((execOp ρ o).run P w) := by
  unfold execOp
  cases ho : o.op <;> rw [ho] at h <;> first | (simp [ckMildOp] at h; done) | skip
  all_goals first | (simp [ckMildRes, Sem.run_pure]; done) | exact ck_mild_v _ | exact ck_mild_u _ | skip
  rename_i c
  obtain ⟨callee, args, ts⟩ := c
  obtain rfl : callee = .builtin .append := ck_mild_callee h
  exact ck_mild_v _
def CkNout (Q : Exit → Act → World → Prop) : Exit → Act → World → Prop
 | .outgrown, _, _ => False
 | e, a, w => Q e a w
theorem CkNout.lets {Q : Exit → Act → World → Prop} (h : LetsOut (CkNout Q)) : False := by
  obtain ⟨a, w, h⟩ := h
  exact h
theorem CkNout.normal {Q : Exit → Act → World → Prop} {a : Act} {w : World} (h : Q .normal a w) : CkNout Q .normal a w := h
theorem ck_mild_about {P : Program} {w : World} {ρ : Operand → Value} {o : Oper} (h : ckMildOp o.op = true) : o.about P w ρ = none := by
  unfold Oper.about
  cases ho : o.op <;> rw [ho] at h <;> first | rfl | (simp [ckMildOp] at h; done) | skip
  rename_i c
  obtain ⟨callee, args, ts⟩ := c
  obtain rfl : callee = .builtin .append := ck_mild_callee h
  rfl
theorem ck_mild_wpIn {F : Fence} {n : Nat} {P : Program} {o : Oper} {a : Act} {w : World} {K K' : Act → World → Prop} {Q : Exit → Act → World → Prop} (hm : ckMildOp o.op = true) (hK : ∀ a w, K a w → K' a w)
    (h : o.wp P a w K (CkNout Q) ∨ (o.asks P a w ∧ LetsOut (CkNout Q))) : o.wpIn F n P a w K' Q := by
  obtain h := h.resolve_right (fun h => CkNout.lets h.2)
  refine ⟨fun f hf => (by rw [ck_mild_about hm] at hf; cases hf), ?_⟩
  rw [Oper.semAt_eq _ _ _ (fun c hc => by rw [hc] at hm; cases hm)]
  have hr := ck_mild_run (P := P) (w := w) a.eval o hm
  unfold Oper.wp at h
  generalize (execOp a.eval o).run P w = r at *
  cases r with
  | ok x w' => cases x <;> simp only [ckMildRes] at hr <;> simp only [Oper.upon, Oper.uponIn] at h ⊢ <;> exact hK _ _ h
  | halt x w' => cases x <;> simp only [Oper.upon, Oper.uponIn] at h ⊢ <;> exact h
theorem ck_mild_ops {F : Fence} {n : Nat} {P : Program} {ops : Array Oper} {Q : Exit → Act → World → Prop} (hm : ∀ (i : Nat) (o : Oper), ops[i]? = some o → ckMildOp o.op = true) : ∀ (l : List Nat) (a : Act) (w : World), wpOps P ops (CkNout Q) l a w → wpOpsIn F n P ops Q l a w
 | [], a, w, h => h
 | i :: rest, a, w, h => by
  rw [wpOps_cons] at h
  rw [wpOpsIn_cons]
  unfold wpOp at h
  unfold wpOpIn
  cases ho : ops[i]? with
  | none =>
    rw [ho] at h
    exact ck_mild_ops hm rest a w h
  | some o =>
    rw [ho] at h
    simp only at h ⊢
    split at h
    · rename_i hw
      rw [if_pos hw]
      exact ck_mild_wpIn (hm i o ho) (fun a w => ck_mild_ops hm rest a w) h
    · rename_i hw
      rw [if_neg hw]
      exact ⟨fun f hf => (by rw [ck_mild_about (hm i o ho)] at hf; cases hf), ck_mild_ops hm rest _ _ h⟩
/-- A region that draws, whose operations call nothing: walked as everywhere, in a round too. -/
theorem ck_mild_region {F : Fence} {m : Nat} {P : Program} {ops : Array Oper} {Q : Exit → Act → World → Prop} {S : World → Prop} {ds : List Nat} {id n : Nat} {a : Act} {w : World} (hall : ops.all (fun o => ckMildOp o.op) = true)
    (l : Array Bool) (hf : P.follows .mixedOrders = true) (hn : ops.size = n) (hl : Array.replicate n false = l) (hS : S w.drew)
    (h : S w.drew → wpAnyLast P .any ops (CkNout Q) S ds n l a w.drew) : (Code.region id ops true).wpIn F m P Q a w := by
  subst hn
  subst hl
  refine wpIn_region_draw fun t => ?_
  refine ck_mild_ops (fun i o ho => ?_) _ _ _ ?_
  · rw [Array.all_eq_true] at hall
    obtain ⟨hi, rfl⟩ := Array.getElem?_eq_some_iff.1 ho
    exact hall i hi
  · simp only [Region.schedule, hf, Bool.true_or, if_true]
    exact wpAny_sound ops.size t _ a _ (wpAny_of_last _ _ _ _ (h hS))
/-- The chunks that have come when k rounds are over. -/
def ch (m : Nat) : Nat → List (Fin m)
 | 0 => []
 | k + 1 => if h : k < m then ch m k ++ [⟨k, h⟩] else ch m k
theorem ch_succ {m k : Nat} (h : k < m) : ch m (k + 1) = ch m k ++ [⟨k, h⟩] := by rw [ch, dif_pos h]
theorem ch_length {m : Nat} : ∀ k, k ≤ m → (ch m k).length = k
 | 0, _ => rfl
 | k + 1, h => by rw [ch_succ (by omega), List.length_append, ch_length k (by omega)]; rfl
theorem ch_map {m : Nat} {β : Type} (f : Nat → β) : ∀ k, k ≤ m → (ch m k).map (fun x => f x.val) = (List.range k).map f
 | 0, _ => rfl
 | k + 1, h => by rw [ch_succ (by omega), List.map_append, ch_map f k (by omega), List.range_succ, List.map_append]; rfl
set_option maxRecDepth 100000 in
set_option maxHeartbeats 2000000 in
theorem chunk1_in {m : Nat} (n : Nat) (hn : 1 ≤ n) (l Bs Bn b c g B : Nat) (hreach : m ≤ 100000000) (hs : Bs < B) (hsg : Bs ≠ g) (hn1 : Bn < B) (hng : Bn ≠ g) (hcap : 3 * m ≤ c) (a0 : Option Addr) (ha : 0 < m → a0 = some ⟨b, 1, none⟩) (B0 : Nat) (J Jx : List (Fin m) → World → Prop)
    (hJ : AbidesFrom B0 J) (hY : ∀ pre x W, J pre W → pre.length < m → YieldAt Fence.wide (n - 1) Tryd.prog l #[.slice (some ⟨b, 1 + 3 * x.val, none⟩) 3 3] W fun e W' =>
      (e = .returned (.bool true) ∧ J (pre ++ [x]) W' ∧ CkBeside g B W W') ∨ (e = .returned (.bool false) ∧ Jx (pre ++ [x]) W'))
    (W : World) (hBs : W.cell? ⟨Bs, 0, none⟩ = some (.slice a0 (3 * m) c)) (hBn : W.cell? ⟨Bn, 0, none⟩ = some (.int .i64 3)) (h0 : J [] W) :
    CallsIn Fence.wide n Tryd.prog 69 #[.func (.yield l) #[] #[], .pointer (some ⟨Bs, 0, none⟩), .pointer (some ⟨Bn, 0, none⟩)] W fun e W' => (∃ v, e = .returned v) ∧
      ((∃ ys, ys = ch m m ∧ J ys W') ∨ (∃ pre, (∃ k, k ≤ m ∧ pre = ch m k) ∧ Jx pre W')) := by
  refine callsIn_of_wp Tryd.func69 rfl trivial ?_ rfl
  simp only [Tryd.ntmps69, List.size_toArray, List.length_cons, List.length_nil, Nat.reduceAdd, Nat.reduceSub, Array.replicate_succ, Array.replicate_zero, List.push_toArray, List.append_toArray, List.nil_append, List.cons_append]
  gi_wp2
  gi_loopw [4] (fun i wr => ∃ k : Nat, k ≤ m ∧ i = .int .i64 ((3 * k : Nat) : Int) ∧ J (ch m k) wr ∧ CkBeside g B W wr)
    (fun i _ => (((3 * m : Nat) : Int) - intOf i).toNat)
  case atStart => exact ⟨0, by omega, rfl, h0, CkBeside.refl _ _ _⟩
  case round =>
    obtain ⟨k, hk, rfl, hJs, hnx⟩ := hrel
    have hBs1 : wr.cell? ⟨Bs, 0, none⟩ = some (.slice a0 (3 * m) c) := (hnx.cell (p := ⟨Bs, 0, none⟩) hs hsg).trans hBs
    have hBn1 : wr.cell? ⟨Bn, 0, none⟩ = some (.int .i64 3) := (hnx.cell (p := ⟨Bn, 0, none⟩) hn1 hng).trans hBn
    by_cases hlt : k < m
    · obtain rfl := ha (by omega)
      obtain ⟨fn, tmps, assign, body, hy, hR⟩ := hY _ ⟨k, hlt⟩ wr.drew (hJ _ wr wr.drew none hJs ⟨rfl, rfl, rfl, Nat.le_refl _, fun _ _ _ => rfl⟩ (fun _ e => by cases e)) (by rw [ch_length k hk]; omega)
      dsimp only at hy
      have hq1 : ((3 * k : Nat) : Int) < ((3 * m : Nat) : Int) := by omega
      have hk3 : (3 * (k : Int)).toNat = 3 * k := by omega
      have hck : ¬ c = 3 * k := by omega
      have hsl : ∀ W, (Instr.slice 25 (.slice (some ⟨b, 1, none⟩) (3 * m) c) (some (.int .i64 ((3 * k : Nat) : Int))) none none).run Tryd.prog W = .ok (.slice (some ⟨b, 1 + 3 * k, none⟩) (3 * m - 3 * k) (c - 3 * k)) W := fun W => by
        rw [run_slice_l (ht := Tryd.underlying25) (h0 := by omega) (h1 := by omega)]
        go_simp
        all_goals (rw [hk3, if_neg hck]; try exact ⟨rfl, rfl, rfl⟩)
      have hk4 : (3 * (k : Int) + 3).toNat = 3 * k + 3 := by omega
      have hsl2 : ∀ W, (Instr.slice 25 (.slice (some ⟨b, 1, none⟩) (3 * m) c) (some (.int .i64 ((3 * k : Nat) : Int))) (some (.int .i64 ((3 * k + 3 : Nat) : Int))) (some (.int .i64 ((3 * k + 3 : Nat) : Int)))).run Tryd.prog W = .ok (.slice (some ⟨b, 1 + 3 * k, none⟩) 3 3) W := fun W => by
        rw [run_slice_lhm (ht := Tryd.underlying25) (h0 := by omega) (h1 := by omega) (h2 := by omega) (h3 := by omega)]
        go_simp
        all_goals (first | (rw [hk3, hk4, if_neg (by omega)]; done) | (simp only [hk3, hk4]; rw [if_neg (by omega)]; simp; omega))
      have hmin : min (3 : Int) ((3 * m - 3 * k : Nat) : Int) = 3 := by omega
      gi_wp2
      gi_region
      all_goals gi_wp2
      refine hR.mono ?_
      rintro e W3 (⟨rfl, hJ3, hk3⟩ | ⟨rfl, hJx3⟩)
      · have hBn3 : W3.cell? ⟨Bn, 0, none⟩ = some (.int .i64 3) := (hk3.cell (p := ⟨Bn, 0, none⟩) hn1 hng).trans hBn1
        gi_wp2
        go_roundw
        case rel => exact ⟨k + 1, by omega, by go_num, by rw [ch_succ hlt]; exact hJ3, hnx.trans hk3⟩
        case measure => simp [intOf]; omega
      · gi_wp2
        refine bodyPost_ret (results_none rfl _ _ _) rfl ?_
        exact ⟨⟨_, rfl⟩, .inr ⟨_, ⟨k + 1, by omega, by rw [ch_succ hlt]⟩, hJx3⟩⟩
    · have hq1 : ¬ ((3 * k : Nat) : Int) < ((3 * m : Nat) : Int) := by omega
      obtain rfl : k = m := by omega
      gi_wp2
      go_end0
      exact ⟨⟨_, rfl⟩, .inl hJs⟩
set_option maxHeartbeats 1000000 in
theorem chunk_in (n : Nat) (a : Option Addr) (len cap : Nat) (w : World) :
    CallsIn Fence.wide n Tryd.prog 44 #[.slice a len cap, .int .i64 3] w fun e w' => e = .returned (.func (.func 69) #[] #[.pointer (some ⟨w.heap.size, 0, none⟩), .pointer (some ⟨w.heap.size + 1, 0, none⟩)]) ∧ w' = (w.alloc (.cells #[.slice a len cap] 25)).alloc (.cells #[.int .i64 3] 3) := by
  refine callsIn_of_wp Tryd.func44 rfl trivial ?_ rfl
  simp only [Tryd.ntmps44, List.size_toArray, List.length_cons, List.length_nil, Nat.reduceAdd, Nat.reduceSub, Array.replicate_succ, Array.replicate_zero, List.push_toArray, List.append_toArray, List.nil_append, List.cons_append]
  have h3 : ((w.alloc (.cells #[.slice a len cap] 25)).alloc (.cells #[.int .i64 3] 3)).cell? ⟨w.heap.size + 1, 0, none⟩ = some (.int .i64 3) := by
    have h := blk_cell (blk_new (w.alloc (.cells #[.slice a len cap] 25)) (.cells #[.int .i64 3] 3)) 0
    rw [World.size_alloc] at h
    exact h
  gi_wp2
  go_ret
  exact ⟨rfl, rfl⟩
theorem chunk_stops {m : Nat} (n : Nat) (hn : 1 ≤ n) (Bs Bn b c g : Nat) (hreach : m ≤ 100000000) (w : World) (hs : Bs < w.heap.size) (hsg : Bs ≠ g) (hn1 : Bn < w.heap.size) (hng : Bn ≠ g) (hcap : 3 * m ≤ c) (a0 : Option Addr) (ha : 0 < m → a0 = some ⟨b, 1, none⟩)
    (hBs : w.cell? ⟨Bs, 0, none⟩ = some (.slice a0 (3 * m) c)) (hBn : w.cell? ⟨Bn, 0, none⟩ = some (.int .i64 3)) :
    SeqStopsK Fence.wide n Tryd.prog 69 #[.pointer (some ⟨Bs, 0, none⟩), .pointer (some ⟨Bn, 0, none⟩)] (fun x : Fin m => #[Value.slice (some ⟨b, 1 + 3 * x.val, none⟩) 3 3]) (CkBeside g w.heap.size) (fun ys => ys = ch m m)
      (fun pre => ∃ k, k ≤ m ∧ pre = ch m k) m w := fun l J Jx W hW hJ _ hY h0 => by
  exact chunk1_in n hn l Bs Bn b c g w.heap.size hreach hs hsg hn1 hng hcap a0 ha W.heap.size J Jx hJ hY W ((hW.cell (p := ⟨Bs, 0, none⟩) hs).trans hBs) ((hW.cell (p := ⟨Bn, 0, none⟩) hn1).trans hBn) h0
def ckPost (R : World → Prop) : Exit → Act → World → Prop
 | .normal, _, w' => R w'
 | _, _, _ => False
theorem ckPost_to {α : Type} {B : Nat} {Kp : World → World → Prop} {I : List α → World → Prop} {Ix : Code → List α → World → Prop} {xs : List α} {W : World} {R : World → Prop} (hR : ∀ W', R W' → KeepsFrom B W W' ∧ Kp W W' ∧ I xs W') : ∀ e a w', ckPost R e a w' → ownPostG B Kp I Ix xs W e a w'
 | .normal, _, w', h => hR w' h
 | .ret, _, _, h => False.elim h
 | .exit _, _, _, h => False.elim h
 | .goto _, _, _, h => False.elim h
 | .panic _, _, _, h => False.elim h
 | .outgrown, _, _, h => False.elim h
theorem ck_R_walk {α : Type} {d : Kd α} {e base : Nat} {W w1 : World} {ok : Nat → Prop} {v : Value} {xs : List α} (h : d.R e W base ok v xs) {row : Option Nat} (hg : W.grownBy w1 row) (hr : ∀ r, row = some r → ∃ o : Obj, W.heap[r]? = some o ∧ o.isCells = false) : d.R e w1 base ok v xs := by
  refine Kd.R_mono (Kd.R_move (Kd.R_bound h) (fun k hk => hg.block k hk.2.2.1 (fun he => ?_))) (fun _ hk => hk.1)
  obtain ⟨o, ho, hi⟩ := hr k he.symm
  obtain ⟨q, _, cells, hc⟩ := hk.2.2.2
  rw [hc] at ho
  cases ho
  cases hi
theorem ck_two {W : World} {g T : Nat} {x y : Value} (h : W.heap[g]? = some (.cells #[x, y] T (0, 0))) (x' y' : Value) :
    W.cell? ⟨g, 0, none⟩ = some x ∧ W.frozen? ⟨g, 0, none⟩ = false ∧ (W.setCell ⟨g, 0, none⟩ x').cell? ⟨g, 1, none⟩ = some y ∧ (W.setCell ⟨g, 0, none⟩ x').frozen? ⟨g, 1, none⟩ = false ∧ ((W.setCell ⟨g, 0, none⟩ x').setCell ⟨g, 1, none⟩ y').heap[g]? = some (.cells #[x', y'] T (0, 0)) := by
  have h1 := blk_put h 0 x' (cs' := #[x', y]) rfl
  exact ⟨(blk_cell h 0).trans rfl, blk_frozen h 0, (blk_cell h1 1).trans rfl, blk_frozen h1 1, blk_put h1 1 y' rfl⟩
theorem ck_add (b o j : Nat) : (⟨b, o, none⟩ : Addr).add j = ⟨b, o + j, none⟩ := by
  unfold Addr.add
  split
  · rename_i h
    rw [h]
    rfl
  · rfl
theorem ck_cells {W : World} {g T : Nat} {x y : Value} (h : W.heap[g]? = some (.cells #[x, y] T (0, 0))) : W.cell? ⟨g, 0, none⟩ = some x ∧ W.cell? ⟨g, 1, none⟩ = some y := ⟨(blk_cell h 0).trans rfl, (blk_cell h 1).trans rfl⟩
theorem ck_below {w W : World} {g : Nat} (h : Below w.heap.size w W) (hg : w.heap.size ≤ g) (x y : Value) : Below w.heap.size w ((W.setCell ⟨g, 0, none⟩ x).setCell ⟨g, 1, none⟩ y) := below_set (below_set h hg) hg
theorem ck_end {W : World} {D g T : Nat} {x y : Value} (hK : W.heap[D]? = some (.deferred (some []))) (hr : W.heap[g]? = some (.cells #[x, y] T (0, 0))) (x' y' : Value) :
    ((W.setCell ⟨g, 0, none⟩ x').setCell ⟨g, 1, none⟩ y').heap[D]? = some (.deferred (some [])) ∧ (((W.setCell ⟨g, 0, none⟩ x').setCell ⟨g, 1, none⟩ y').putObj D (.deferred none)).cell? ⟨g, 0, none⟩ = some x' ∧ (((W.setCell ⟨g, 0, none⟩ x').setCell ⟨g, 1, none⟩ y').putObj D (.deferred none)).cell? ⟨g, 1, none⟩ = some y' := by
  have hne : D ≠ g := fun e => by
    rw [e, hr] at hK
    cases hK
  obtain ⟨_, _, _, _, h5⟩ := ck_two hr x' y'
  have h6 : (((W.setCell ⟨g, 0, none⟩ x').setCell ⟨g, 1, none⟩ y').putObj D (.deferred none)).heap[g]? = some (.cells #[x', y'] T (0, 0)) := (World.putObj_heap_other (fun e => hne e.symm)).trans h5
  obtain ⟨h7, h8⟩ := ck_cells h6
  exact ⟨(Below.heap_setCell _ _ _ _ hne).trans ((Below.heap_setCell _ _ _ _ hne).trans hK), h7, h8⟩
theorem ck_out {w W : World} {D g : Nat} (hB : Below w.heap.size w W) (hg : w.heap.size ≤ g) (hD : w.heap.size ≤ D) (hK : W.heap[D]? = some (.deferred (some []))) (hne : D ≠ g) (x' y' : Value) :
    Below w.heap.size w (((W.setCell ⟨g, 0, none⟩ x').setCell ⟨g, 1, none⟩ y').putObj D (.deferred none)) :=
  (ck_below hB hg x' y').trans (belowK_b (w := w) (Nat.le_refl _) _ D _ _ hD ((Below.heap_setCell _ _ _ _ hne).trans ((Below.heap_setCell _ _ _ _ hne).trans hK)) rfl rfl)
end Go.Proofs.YtncdecmcdlfmmaaDoor.X
end
