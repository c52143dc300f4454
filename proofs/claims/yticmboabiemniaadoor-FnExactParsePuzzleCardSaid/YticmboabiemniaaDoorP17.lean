import Derived.Test.YticmboabiemniaaDoorP5
import Derived.Test.YticmboabiemniaaDoorP14
import Derived.Test.YticmboabiemniaaDoorP16
import Derived.Deep.RegionLaw
import Derived.Laws.CopyOwn
import Derived.RangeFuncNested
import Derived.RangeFuncBound
import Derived.RangeFuncCalls
import Derived.RangeFuncLeaves
import Derived.RangeFuncWrites
import Derived.Shelf.Abstract
import Derived.Shelf.RegionOpen
import Derived.WalkKit
import Derived.OwnWalkIn
import Derived.TacticsInMore
import Derived.LoopNIn
import Derived.LoopIn
import Derived.Sort.LoopGhostIn
import Derived.Sort.CutIn
import Derived.OrdersIn
import Derived.TacticsIn
section
/- impl.ParsePuzzle: numbers, slices.Chunk, a range over a function whose body appends to a struct's field. -/
--! fn impl.ParsePuzzle|impl_ParsePuzzle|rounds|making
--! uses impl.numbers; impl.IsPuzzle; impl.puzzleText
--! asks errRange errSyntax pow10
namespace Go.Proofs.YticmboabiemniaaDoor.X
open Go.Proofs.YticmboabiemniaaDoor.Sq Go.RowKit Go.Proofs.YticmboabiemniaaDoorW.PrintWords Go.Proofs.YticmboabiemniaaDoorW.PrintLast Go.Proofs.YticmboabiemniaaDoorW.PrintMore
attribute [local go_sem] max2_int min2_int max_two min_two max_three min_three max_four min_four   -- for this text's walks alone
set_option linter.unusedVariables false
set_option linter.unusedSimpArgs false
attribute [local go_sem] Oper.semAt_some
def Beside (g B : Nat) (W W' : World) : Prop := ∀ k, k < B → k ≠ g → W'.heap[k]? = W.heap[k]?
theorem Beside.refl (g B : Nat) (W : World) : Beside g B W W := fun _ _ _ => rfl
theorem Beside.trans {g B : Nat} {U V W : World} (h : Beside g B U V) (k : Beside g B V W) : Beside g B U W := fun i hi hn => (k i hi hn).trans (h i hi hn)
theorem Beside.cell {g B : Nat} {W W' : World} (h : Beside g B W W') {p : Addr} (hp : p.block < B) (hn : p.block ≠ g) : W'.cell? p = W.cell? p := World.cell?_of_block (h _ hp hn)
theorem beside_b {g : Nat} {w : World} (W : World) (l : Nat) (o o' : Obj) (hl : w.heap.size ≤ l) (h : W.heap[l]? = some o) (_ : o.isCells = false) (_ : o.isWalk = false) : Beside g w.heap.size W (W.putObj l o') :=
  fun k hk _ => World.putObj_heap_other (by omega)
theorem Beside.of_grown {g B : Nat} {W W' : World} (h : W.grownBy W' (some g)) (hB : B ≤ W.heap.size) : Beside g B W W' := fun k hk hn => h.block k (by omega) (fun e => hn (by cases e; rfl))
def mildCallee : Callee → Bool
 | .builtin .append => true
 | _ => false
/-- An operation that calls nothing (append aside) and puts nothing off. -/
def mildOp : Op → Bool
 | .move _ => true
 | .assign _ => true
 | .load _ _ => true
 | .store _ _ _ => true
 | .indexAddr _ _ _ => true
 | .fieldAddr _ _ _ => true
 | .build _ _ => true
 | .buildSlice _ _ _ => true
 | .call c => mildCallee c.callee
 | _ => false
def mildRes : Result Next → Prop
 | .ok (.value _) _ => True
 | .ok .skip _ => True
 | .halt _ _ => True
 | _ => False
theorem mild_v {P : Program} {w : World} (s : Sem Value) : mildRes ((do pure (Next.value (← s)) : Sem Next).run P w) := by
  rw [Sem.run_bind]
  generalize s.run P w = r
  cases r <;> simp [Result.andThen, mildRes, Sem.run_pure]
theorem mild_u {P : Program} {w : World} (s : Sem Unit) : mildRes ((do s; pure Next.skip : Sem Next).run P w) := by
  rw [Sem.run_bind]
  generalize s.run P w = r
  cases r <;> simp [Result.andThen, mildRes, Sem.run_pure]
theorem mild_callee {c : Callee} (h : mildCallee c = true) : c = .builtin .append := by
  unfold mildCallee at h
  split at h
  · rfl
  · cases h
theorem mild_run {P : Program} {w : World} (ρ : Operand → Value) (o : Oper) (h : mildOp o.op = true) : mildRes ((execOp ρ o).run P w) := by
  unfold execOp
  cases ho : o.op <;> rw [ho] at h <;> first | (simp [mildOp] at h; done) | skip
  all_goals first | (simp [mildRes, Sem.run_pure]; done) | exact mild_v _ | exact mild_u _ | skip
  rename_i c
  obtain ⟨callee, args, ts⟩ := c
  obtain rfl : callee = .builtin .append := mild_callee h
  exact mild_v _
def Nout (Q : Exit → Act → World → Prop) : Exit → Act → World → Prop
 | .outgrown, _, _ => False
 | e, a, w => Q e a w
theorem Nout.lets {Q : Exit → Act → World → Prop} (h : LetsOut (Nout Q)) : False := by
  obtain ⟨a, w, h⟩ := h
  exact h
theorem Nout.normal {Q : Exit → Act → World → Prop} {a : Act} {w : World} (h : Q .normal a w) : Nout Q .normal a w := h
theorem mild_about {P : Program} {w : World} {ρ : Operand → Value} {o : Oper} (h : mildOp o.op = true) : o.about P w ρ = none := by
  unfold Oper.about
  cases ho : o.op <;> rw [ho] at h <;> first | rfl | (simp [mildOp] at h; done) | skip
  rename_i c
  obtain ⟨callee, args, ts⟩ := c
  obtain rfl : callee = .builtin .append := mild_callee h
  rfl
theorem mild_wpIn {F : Fence} {n : Nat} {P : Program} {o : Oper} {a : Act} {w : World} {K K' : Act → World → Prop} {Q : Exit → Act → World → Prop} (hm : mildOp o.op = true) (hK : ∀ a w, K a w → K' a w)
    (h : o.wp P a w K (Nout Q) ∨ (o.asks P a w ∧ LetsOut (Nout Q))) : o.wpIn F n P a w K' Q := by
  obtain h := h.resolve_right (fun h => Nout.lets h.2)
  refine ⟨fun f hf => (by rw [mild_about hm] at hf; cases hf), ?_⟩
  rw [Oper.semAt_eq _ _ _ (fun c hc => by rw [hc] at hm; cases hm)]
  have hr := mild_run (P := P) (w := w) a.eval o hm
  unfold Oper.wp at h
  generalize (execOp a.eval o).run P w = r at *
  cases r with
  | ok x w' => cases x <;> simp only [mildRes] at hr <;> simp only [Oper.upon, Oper.uponIn] at h ⊢ <;> exact hK _ _ h
  | halt x w' => cases x <;> simp only [Oper.upon, Oper.uponIn] at h ⊢ <;> exact h
theorem mild_ops {F : Fence} {n : Nat} {P : Program} {ops : Array Oper} {Q : Exit → Act → World → Prop} (hm : ∀ (i : Nat) (o : Oper), ops[i]? = some o → mildOp o.op = true) : ∀ (l : List Nat) (a : Act) (w : World), wpOps P ops (Nout Q) l a w → wpOpsIn F n P ops Q l a w
 | [], a, w, h => h
 | i :: rest, a, w, h => by
  rw [wpOps_cons] at h
  rw [wpOpsIn_cons]
  unfold wpOp at h
  unfold wpOpIn
  cases ho : ops[i]? with
  | none =>
    rw [ho] at h
    exact mild_ops hm rest a w h
  | some o =>
    rw [ho] at h
    simp only at h ⊢
    split at h
    · rename_i hw
      rw [if_pos hw]
      exact mild_wpIn (hm i o ho) (fun a w => mild_ops hm rest a w) h
    · rename_i hw
      rw [if_neg hw]
      exact ⟨fun f hf => (by rw [mild_about (hm i o ho)] at hf; cases hf), mild_ops hm rest _ _ h⟩
/-- A region that draws, whose operations call nothing: walked as everywhere, in a round too. -/
theorem mild_region {F : Fence} {m : Nat} {P : Program} {ops : Array Oper} {Q : Exit → Act → World → Prop} {S : World → Prop} {ds : List Nat} {id n : Nat} {a : Act} {w : World} (hall : ops.all (fun o => mildOp o.op) = true)
    (l : Array Bool) (hf : P.follows .mixedOrders = true) (hn : ops.size = n) (hl : Array.replicate n false = l) (hS : S w.drew)
    (h : S w.drew → wpAnyLast P .any ops (Nout Q) S ds n l a w.drew) : (Code.region id ops true).wpIn F m P Q a w := by
  subst hn
  subst hl
  refine wpIn_region_draw fun t => ?_
  refine mild_ops (fun i o ho => ?_) _ _ _ ?_
  · rw [Array.all_eq_true] at hall
    obtain ⟨hi, rfl⟩ := Array.getElem?_eq_some_iff.1 ho
    exact hall i hi
  · simp only [Region.schedule, hf, Bool.true_or, if_true]
    exact wpAny_sound ops.size t _ a _ (wpAny_of_last _ _ _ _ (h hS))
/-- The chunks that have come when k rounds are over. -/
def ch (m : Nat) : Nat → List (Fin m)
 | 0 => []
 | k + 1 => if h : k < m then ch m k ++ [⟨k, h⟩] else ch m k
theorem ch_succ {m k : Nat} (h : k < m) : ch m (k + 1) = ch m k ++ [⟨k, h⟩] := by rw [ch, dif_pos h]
theorem ch_length {m : Nat} : ∀ k, k ≤ m → (ch m k).length = k
 | 0, _ => rfl
 | k + 1, h => by rw [ch_succ (by omega), List.length_append, ch_length k (by omega)]; rfl
theorem ch_map {m : Nat} {β : Type} (f : Nat → β) : ∀ k, k ≤ m → (ch m k).map (fun x => f x.val) = (List.range k).map f
 | 0, _ => rfl
 | k + 1, h => by rw [ch_succ (by omega), List.map_append, ch_map f k (by omega), List.range_succ, List.map_append]; rfl
set_option maxRecDepth 100000 in
set_option maxHeartbeats 2000000 in
theorem chunk1_in {m : Nat} (n : Nat) (hn : 1 ≤ n) (l Bs Bn b c g B : Nat) (hreach : m ≤ 100000000) (hs : Bs < B) (hsg : Bs ≠ g) (hn1 : Bn < B) (hng : Bn ≠ g) (hcap : 3 * m ≤ c) (a0 : Option Addr) (ha : 0 < m → a0 = some ⟨b, 1, none⟩) (B0 : Nat) (J Jx : List (Fin m) → World → Prop)
    (hJ : AbidesFrom B0 J) (hY : ∀ pre x W, J pre W → pre.length < m → YieldAt Fence.wide (n - 1) Tryd.prog l #[.slice (some ⟨b, 1 + 3 * x.val, none⟩) 3 3] W fun e W' =>
      (e = .returned (.bool true) ∧ J (pre ++ [x]) W' ∧ Beside g B W W') ∨ (e = .returned (.bool false) ∧ Jx (pre ++ [x]) W'))
    (W : World) (hBs : W.cell? ⟨Bs, 0, none⟩ = some (.slice a0 (3 * m) c)) (hBn : W.cell? ⟨Bn, 0, none⟩ = some (.int .i64 3)) (h0 : J [] W) :
    CallsIn Fence.wide n Tryd.prog 55 #[.func (.yield l) #[] #[], .pointer (some ⟨Bs, 0, none⟩), .pointer (some ⟨Bn, 0, none⟩)] W fun e W' => (∃ v, e = .returned v) ∧
      ((∃ ys, ys = ch m m ∧ J ys W') ∨ (∃ pre, (∃ k, k ≤ m ∧ pre = ch m k) ∧ Jx pre W')) := by
  refine callsIn_of_wp Tryd.func55 rfl trivial ?_ rfl
  simp only [Tryd.ntmps55, List.size_toArray, List.length_cons, List.length_nil, Nat.reduceAdd, Nat.reduceSub, Array.replicate_succ, Array.replicate_zero, List.push_toArray, List.append_toArray, List.nil_append, List.cons_append]
  gi_wp2
  gi_loopw [4] (fun i wr => ∃ k : Nat, k ≤ m ∧ i = .int .i64 ((3 * k : Nat) : Int) ∧ J (ch m k) wr ∧ Beside g B W wr)
    (fun i _ => (((3 * m : Nat) : Int) - intOf i).toNat)
  case atStart => exact ⟨0, by omega, rfl, h0, Beside.refl _ _ _⟩
  case round =>
    obtain ⟨k, hk, rfl, hJs, hnx⟩ := hrel
    have hBs1 : wr.cell? ⟨Bs, 0, none⟩ = some (.slice a0 (3 * m) c) := (hnx.cell (p := ⟨Bs, 0, none⟩) hs hsg).trans hBs
    have hBn1 : wr.cell? ⟨Bn, 0, none⟩ = some (.int .i64 3) := (hnx.cell (p := ⟨Bn, 0, none⟩) hn1 hng).trans hBn
    by_cases hlt : k < m
    · obtain rfl := ha (by omega)
      obtain ⟨fn, tmps, assign, body, hy, hR⟩ := hY _ ⟨k, hlt⟩ wr.drew (hJ _ wr wr.drew none hJs ⟨rfl, rfl, rfl, Nat.le_refl _, fun _ _ _ => rfl⟩ (fun _ e => by cases e)) (by rw [ch_length k hk]; omega)
      dsimp only at hy
      have hq1 : ((3 * k : Nat) : Int) < ((3 * m : Nat) : Int) := by omega
      have hk3 : (3 * (k : Int)).toNat = 3 * k := by omega
      have hck : ¬ c = 3 * k := by omega
      have hsl : ∀ W, (Instr.slice 48 (.slice (some ⟨b, 1, none⟩) (3 * m) c) (some (.int .i64 ((3 * k : Nat) : Int))) none none).run Tryd.prog W = .ok (.slice (some ⟨b, 1 + 3 * k, none⟩) (3 * m - 3 * k) (c - 3 * k)) W := fun W => by
        rw [run_slice_l (ht := Tryd.underlying48) (h0 := by omega) (h1 := by omega)]
        go_simp
        all_goals (rw [hk3, if_neg hck]; try exact ⟨rfl, rfl, rfl⟩)
      have hk4 : (3 * (k : Int) + 3).toNat = 3 * k + 3 := by omega
      have hsl2 : ∀ W, (Instr.slice 48 (.slice (some ⟨b, 1, none⟩) (3 * m) c) (some (.int .i64 ((3 * k : Nat) : Int))) (some (.int .i64 ((3 * k + 3 : Nat) : Int))) (some (.int .i64 ((3 * k + 3 : Nat) : Int)))).run Tryd.prog W = .ok (.slice (some ⟨b, 1 + 3 * k, none⟩) 3 3) W := fun W => by
        rw [run_slice_lhm (ht := Tryd.underlying48) (h0 := by omega) (h1 := by omega) (h2 := by omega) (h3 := by omega)]
        go_simp
        all_goals (first | (rw [hk3, hk4, if_neg (by omega)]; done) | (simp only [hk3, hk4]; rw [if_neg (by omega)]; simp; omega))
      have hmin : min (3 : Int) ((3 * m - 3 * k : Nat) : Int) = 3 := by omega
      gi_wp2
      gi_region
      all_goals gi_wp2
      refine hR.mono ?_
      rintro e W3 (⟨rfl, hJ3, hk3⟩ | ⟨rfl, hJx3⟩)
      · have hBn3 : W3.cell? ⟨Bn, 0, none⟩ = some (.int .i64 3) := (hk3.cell (p := ⟨Bn, 0, none⟩) hn1 hng).trans hBn1
        gi_wp2
        go_roundw
        case rel => exact ⟨k + 1, by omega, by go_num, by rw [ch_succ hlt]; exact hJ3, hnx.trans hk3⟩
        case measure => simp [intOf]; omega
      · gi_wp2
        refine bodyPost_ret (results_none rfl _ _ _) rfl ?_
        exact ⟨⟨_, rfl⟩, .inr ⟨_, ⟨k + 1, by omega, by rw [ch_succ hlt]⟩, hJx3⟩⟩
    · have hq1 : ¬ ((3 * k : Nat) : Int) < ((3 * m : Nat) : Int) := by omega
      obtain rfl : k = m := by omega
      gi_wp2
      go_end0
      exact ⟨⟨_, rfl⟩, .inl hJs⟩
set_option maxHeartbeats 1000000 in
theorem chunk_in (n : Nat) (a : Option Addr) (len cap : Nat) (w : World) :
    CallsIn Fence.wide n Tryd.prog 33 #[.slice a len cap, .int .i64 3] w fun e w' => e = .returned (.func (.func 55) #[] #[.pointer (some ⟨w.heap.size, 0, none⟩), .pointer (some ⟨w.heap.size + 1, 0, none⟩)]) ∧ w' = (w.alloc (.cells #[.slice a len cap] 48)).alloc (.cells #[.int .i64 3] 3) := by
  refine callsIn_of_wp Tryd.func33 rfl trivial ?_ rfl
  simp only [Tryd.ntmps33, List.size_toArray, List.length_cons, List.length_nil, Nat.reduceAdd, Nat.reduceSub, Array.replicate_succ, Array.replicate_zero, List.push_toArray, List.append_toArray, List.nil_append, List.cons_append]
  have h3 : ((w.alloc (.cells #[.slice a len cap] 48)).alloc (.cells #[.int .i64 3] 3)).cell? ⟨w.heap.size + 1, 0, none⟩ = some (.int .i64 3) := by
    have h := blk_cell (blk_new (w.alloc (.cells #[.slice a len cap] 48)) (.cells #[.int .i64 3] 3)) 0
    rw [World.size_alloc] at h
    exact h
  gi_wp2
  go_ret
  exact ⟨rfl, rfl⟩
theorem chunk_stops {m : Nat} (n : Nat) (hn : 1 ≤ n) (Bs Bn b c g : Nat) (hreach : m ≤ 100000000) (w : World) (hs : Bs < w.heap.size) (hsg : Bs ≠ g) (hn1 : Bn < w.heap.size) (hng : Bn ≠ g) (hcap : 3 * m ≤ c) (a0 : Option Addr) (ha : 0 < m → a0 = some ⟨b, 1, none⟩)
    (hBs : w.cell? ⟨Bs, 0, none⟩ = some (.slice a0 (3 * m) c)) (hBn : w.cell? ⟨Bn, 0, none⟩ = some (.int .i64 3)) :
    SeqStopsK Fence.wide n Tryd.prog 55 #[.pointer (some ⟨Bs, 0, none⟩), .pointer (some ⟨Bn, 0, none⟩)] (fun x : Fin m => #[Value.slice (some ⟨b, 1 + 3 * x.val, none⟩) 3 3]) (Beside g w.heap.size) (fun ys => ys = ch m m)
      (fun pre => ∃ k, k ≤ m ∧ pre = ch m k) m w := fun l J Jx W hW hJ _ hY h0 => by
  exact chunk1_in n hn l Bs Bn b c g w.heap.size hreach hs hsg hn1 hng hcap a0 ha W.heap.size J Jx hJ hY W ((hW.cell (p := ⟨Bs, 0, none⟩) hs).trans hBs) ((hW.cell (p := ⟨Bn, 0, none⟩) hn1).trans hBn) h0
def ppSep : ByteArray := ⟨#[58, 46, 44]⟩
def ppClue (t : List Int) (j : Nat) : S26 := ⟨rdOf 0 t ((1 + 3 * j : Nat) : Int), rdOf 0 t ((1 + 3 * j + 1 : Nat) : Int), rdOf 0 t ((1 + 3 * j + 2 : Nat) : Int)⟩
def ppClues (t : List Int) : List S26 := (List.range (t.length / 3)).map (ppClue t)
def impl_ParsePuzzle.g (k : Nat) (a0 : ByteArray) (q : Int) (ps : List S26) : Option (Int × List S26 × Bool) :=
  (impl_IsPuzzle.f k q ps).bind fun b => if b = true then (impl_puzzleText.f k q ps).bind fun s => (if s = a0 then some (q, ps, true) else some (0, [], false)) else some (0, [], false)
def impl_ParsePuzzle.f (k : Nat) (a0 : ByteArray) : Option (Int × List S26 × Bool) :=
  (impl_numbers.f k a0 ppSep 256).bind fun t => if t.2 = true then (if t.1.length % 3 = 1 then (if t.1.length ≤ 100000000 then impl_ParsePuzzle.g k a0 (rdOf 0 t.1 0) (ppClues t.1) else none) else some (0, [], false)) else some (0, [], false)
def lfPost (R : World → Prop) : Exit → Act → World → Prop
 | .normal, _, w' => R w'
 | _, _, _ => False
theorem lfPost_to {α : Type} {B : Nat} {Kp : World → World → Prop} {I : List α → World → Prop} {Ix : Code → List α → World → Prop} {xs : List α} {W : World} {R : World → Prop} (hR : ∀ W', R W' → KeepsFrom B W W' ∧ Kp W W' ∧ I xs W') : ∀ e a w', lfPost R e a w' → ownPostG B Kp I Ix xs W e a w'
 | .normal, _, w', h => hR w' h
 | .ret, _, _, h => False.elim h
 | .exit _, _, _, h => False.elim h
 | .goto _, _, _, h => False.elim h
 | .panic _, _, _, h => False.elim h
 | .outgrown, _, _, h => False.elim h
theorem R_walk {α : Type} {d : Kd α} {e base : Nat} {W w1 : World} {ok : Nat → Prop} {v : Value} {xs : List α} (h : d.R e W base ok v xs) {row : Option Nat} (hg : W.grownBy w1 row) (hr : ∀ r, row = some r → ∃ o : Obj, W.heap[r]? = some o ∧ o.isCells = false) : d.R e w1 base ok v xs := by
  refine Kd.R_mono (Kd.R_move (Kd.R_bound h) (fun k hk => hg.block k hk.2.2.1 (fun he => ?_))) (fun _ hk => hk.1)
  obtain ⟨o, ho, hi⟩ := hr k he.symm
  obtain ⟨q, _, cells, hc⟩ := hk.2.2.2
  rw [hc] at ho
  cases ho
  cases hi
theorem pp_two {W : World} {g T : Nat} {x y : Value} (h : W.heap[g]? = some (.cells #[x, y] T (0, 0))) (x' y' : Value) :
    W.cell? ⟨g, 0, none⟩ = some x ∧ W.frozen? ⟨g, 0, none⟩ = false ∧ (W.setCell ⟨g, 0, none⟩ x').cell? ⟨g, 1, none⟩ = some y ∧ (W.setCell ⟨g, 0, none⟩ x').frozen? ⟨g, 1, none⟩ = false ∧ ((W.setCell ⟨g, 0, none⟩ x').setCell ⟨g, 1, none⟩ y').heap[g]? = some (.cells #[x', y'] T (0, 0)) := by
  have h1 := blk_put h 0 x' (cs' := #[x', y]) rfl
  exact ⟨(blk_cell h 0).trans rfl, blk_frozen h 0, (blk_cell h1 1).trans rfl, blk_frozen h1 1, blk_put h1 1 y' rfl⟩
theorem pp_add (b o j : Nat) : (⟨b, o, none⟩ : Addr).add j = ⟨b, o + j, none⟩ := by
  unfold Addr.add
  split
  · rename_i h
    rw [h]
    rfl
  · rfl
theorem pp_cells {W : World} {g T : Nat} {x y : Value} (h : W.heap[g]? = some (.cells #[x, y] T (0, 0))) : W.cell? ⟨g, 0, none⟩ = some x ∧ W.cell? ⟨g, 1, none⟩ = some y := ⟨(blk_cell h 0).trans rfl, (blk_cell h 1).trans rfl⟩
theorem pp_below {w W : World} {g : Nat} (h : Below w.heap.size w W) (hg : w.heap.size ≤ g) (x y : Value) : Below w.heap.size w ((W.setCell ⟨g, 0, none⟩ x).setCell ⟨g, 1, none⟩ y) := below_set (below_set h hg) hg
theorem pp_end {W : World} {D g T : Nat} {x y : Value} (hK : W.heap[D]? = some (.deferred (some []))) (hr : W.heap[g]? = some (.cells #[x, y] T (0, 0))) (x' y' : Value) :
    ((W.setCell ⟨g, 0, none⟩ x').setCell ⟨g, 1, none⟩ y').heap[D]? = some (.deferred (some [])) ∧ (((W.setCell ⟨g, 0, none⟩ x').setCell ⟨g, 1, none⟩ y').putObj D (.deferred none)).cell? ⟨g, 0, none⟩ = some x' ∧ (((W.setCell ⟨g, 0, none⟩ x').setCell ⟨g, 1, none⟩ y').putObj D (.deferred none)).cell? ⟨g, 1, none⟩ = some y' := by
  have hne : D ≠ g := fun e => by
    rw [e, hr] at hK
    cases hK
  obtain ⟨_, _, _, _, h5⟩ := pp_two hr x' y'
  have h6 : (((W.setCell ⟨g, 0, none⟩ x').setCell ⟨g, 1, none⟩ y').putObj D (.deferred none)).heap[g]? = some (.cells #[x', y'] T (0, 0)) := (World.putObj_heap_other (fun e => hne e.symm)).trans h5
  obtain ⟨h7, h8⟩ := pp_cells h6
  exact ⟨(Below.heap_setCell _ _ _ _ hne).trans ((Below.heap_setCell _ _ _ _ hne).trans hK), h7, h8⟩
theorem pp_out {w W : World} {D g : Nat} (hB : Below w.heap.size w W) (hg : w.heap.size ≤ g) (hD : w.heap.size ≤ D) (hK : W.heap[D]? = some (.deferred (some []))) (hne : D ≠ g) (x' y' : Value) :
    Below w.heap.size w (((W.setCell ⟨g, 0, none⟩ x').setCell ⟨g, 1, none⟩ y').putObj D (.deferred none)) :=
  (pp_below hB hg x' y').trans (belowK_b (w := w) (Nat.le_refl _) _ D _ _ hD ((Below.heap_setCell _ _ _ _ hne).trans ((Below.heap_setCell _ _ _ _ hne).trans hK)) rfl rfl)
set_option maxHeartbeats 8000000 in
set_option maxRecDepth 100000 in
theorem impl_ParsePuzzle.calls (k : Nat) (a0 : ByteArray) (r1 : Int) (r2 : List S26) (r3 : Bool) (w : World) (hT_errRange : Tab_errRange w) (hT_errSyntax : Tab_errSyntax w) (hT_pow10 : Tab_pow10 w) (h : impl_ParsePuzzle.f k a0 = some (r1, r2, r3)) :
  Calls Tryd.prog 15 #[.string a0] w fun e w' => ∃ v1_ : Value, e = .returned (.tuple #[.agg #[.int .i64 r1, v1_], .bool r3]) ∧ Kd.R k26 26 w' w.heap.size (fun _ => True) v1_ r2 ∧ Below w.heap.size w w' := by
  unfold impl_ParsePuzzle.f at h
  obtain ⟨⟨t, ok⟩, ht, h⟩ := Option.bind_eq_some_iff.1 h
  dsimp only at h
  refine (callsIn_wide (n := 5)).1 ?_
  refine callsIn_of_wp_marks Tryd.func15 rfl trivial ?_ rfl
  simp only [Tryd.ntmps15, List.size_toArray, List.length_cons, List.length_nil, Nat.reduceAdd, Nat.reduceSub, Array.replicate_succ, Array.replicate_zero, List.push_toArray, List.append_toArray, List.nil_append, List.cons_append]
  refine wpIn_wide.2 ?_
  go_wp2_with fail
  have hB1 : Below w.heap.size w (w.alloc (.cells #[.int .i64 0, .slice none 0 0] 31)) := (Below.refl _ w).alloc (Nat.le_refl _) _
  have hN := impl_numbers.calls k a0 ppSep 256 t ok (w.alloc (.cells #[.int .i64 0, .slice none 0 0] 31)) (hT_errRange.below hB1) (hT_errSyntax.below hB1) (hT_pow10.below hB1) ht
  refine hN.mono ?_
  rintro e W2 ⟨v, rfl, hR, hb⟩
  have hres2 : W2.heap[w.heap.size]? = some (.cells #[.int .i64 0, .slice none 0 0] 31 (0, 0)) := blk_below (blk_new w _) hb
  have hB2 : Below w.heap.size w W2 := hB1.trans (hb.mono hB1.size)
  have hT2 := am hT_pow10
  clear hN hT_errRange hT_errSyntax hT_pow10 ht
  cases ok with
  | false =>
    rw [if_neg (by simp)] at h
    simp only [Option.some.injEq, Prod.mk.injEq] at h
    obtain ⟨rfl, rfl, rfl⟩ := h
    obtain ⟨A, c, rfl⟩ := Kd.R_slice hR
    obtain ⟨s1, s2, s3, s4, s5⟩ := pp_two hres2 (.int .i64 0) (.slice none 0 0)
    obtain ⟨s6, s7⟩ := pp_cells s5
    go_wp2_with fail
    refine ⟨.tuple #[.agg #[.int .i64 0, .slice none 0 0], .bool false], ?res, _, rfl, Kd.R_nil _ _ _ _ _, pp_below hB2 (Nat.le_refl _) _ _⟩
    case res =>
      unfold results
      simp only [Tryd.f15]
      go_simp
  | true =>
    rw [if_pos rfl] at h
    by_cases hm : t.length % 3 = 1
    rotate_left
    · rw [if_neg hm] at h
      simp only [Option.some.injEq, Prod.mk.injEq] at h
      obtain ⟨rfl, rfl, rfl⟩ := h
      obtain ⟨A, c, rfl⟩ := Kd.R_slice hR
      obtain ⟨s1, s2, s3, s4, s5⟩ := pp_two hres2 (.int .i64 0) (.slice none 0 0)
      obtain ⟨s6, s7⟩ := pp_cells s5
      have hm1 : Int.tmod (t.length : Int) 3 = ((t.length % 3 : Nat) : Int) := rfl
      have hm2 : ¬ Int.tmod (t.length : Int) 3 = 1 := by rw [hm1]; omega
      go_wp2_with fail
      refine ⟨.tuple #[.agg #[.int .i64 0, .slice none 0 0], .bool false], ?res, _, rfl, Kd.R_nil _ _ _ _ _, pp_below hB2 (Nat.le_refl _) _ _⟩
      case res =>
        unfold results
        simp only [Tryd.f15]
        go_simp
    · rw [if_pos hm] at h
      by_cases hlen : t.length ≤ 100000000
      rotate_left
      · rw [if_neg hlen] at h
        cases h
      rw [if_pos hlen] at h
      obtain ⟨m, hm3⟩ : ∃ m, t.length = 3 * m + 1 := ⟨t.length / 3, by omega⟩
      obtain ⟨gs, cs, rfl, gb, gl, cl, hG⟩ := Kd.R_form hR (by omega)
      obtain ⟨_, hcs, hC⟩ := Kd.R_reads' hR
      have hq0 := (Kd.R_celln 0 hR 0 (by omega) (by omega)).1
      have hm1 : Int.tmod (t.length : Int) 3 = 1 := by
        have : Int.tmod (t.length : Int) 3 = ((t.length % 3 : Nat) : Int) := rfl
        rw [this, hm]
        rfl
      have hz : ((0 : Int).toNat) = 0 := rfl
      rw [hz] at hq0
      obtain ⟨ad, had⟩ : ∃ ad : Option Addr, (if cs = 1 then some ⟨gs, 0, none⟩ else some ⟨gs, 1, none⟩) = ad := ⟨_, rfl⟩
      have hsl : ∀ W, (Instr.slice 48 (.slice (some ⟨gs, 0, none⟩) (3 * m + 1) cs) (some (.int .i64 1)) none none).run Tryd.prog W = .ok (.slice ad (3 * m) (cs - 1)) W := fun W => by
        rw [run_slice_l (ht := Tryd.underlying48) (h0 := by omega) (h1 := by omega)]
        rw [← had]
        go_simp
      have hadm : 0 < m → ad = some ⟨gs, 1, none⟩ := fun hm0 => by rw [← had, if_neg (by omega)]
      have hcap : 3 * m ≤ cs - 1 := by omega
      clear had
      go_wp2_with fail
      have hs2 := blk_lt hres2
      refine (callsIn_wide.1 (chunk_in 5 _ _ _ _)).mono ?_
      rintro e W7 ⟨rfl, hW7⟩
      have hsz : (W2.alloc (.cells #[.int .i64 (rdOf 0 t 0), .slice none 0 0] 31)).heap.size = W2.heap.size + 1 := by simp
      rw [hsz]
      have hs7 : W7.heap.size = W2.heap.size + 3 := by rw [hW7]; simp
      have hp7 : W7.heap[W2.heap.size]? = some (.cells #[.int .i64 (rdOf 0 t 0), .slice none 0 0] 31 (0, 0)) := by
        rw [hW7]; exact blk_alloc (blk_alloc (blk_new W2 _) _) _
      have hr7 : W7.heap[w.heap.size]? = some (.cells #[.int .i64 0, .slice none 0 0] 31 (0, 0)) := by
        rw [hW7]; exact blk_alloc (blk_alloc (blk_alloc hres2 _) _) _
      have hx7 : W7.cell? ⟨W2.heap.size + 1, 0, none⟩ = some (.slice ad (3 * m) (cs - 1)) := by
        have := blk_cell (blk_alloc (blk_new (W2.alloc (.cells #[.int .i64 (rdOf 0 t 0), .slice none 0 0] 31)) (.cells #[.slice ad (3 * m) (cs - 1)] 48)) (.cells #[.int .i64 3] 3)) 0
        rw [hsz] at this
        rw [hW7]
        exact this
      have hy7 : W7.cell? ⟨W2.heap.size + 1 + 1, 0, none⟩ = some (.int .i64 3) := by
        have := blk_cell (blk_new ((W2.alloc (.cells #[.int .i64 (rdOf 0 t 0), .slice none 0 0] 31)).alloc (.cells #[.slice ad (3 * m) (cs - 1)] 48)) (.cells #[.int .i64 3] 3)) 0
        rw [World.size_alloc, hsz] at this
        rw [hW7]
        exact this
      have hC7 : Kd.C (Kd.int .i64) W7 (some ⟨gs, 0, none⟩) t.length t := by rw [hW7]; exact Kd.C_alloc (Kd.C_alloc (Kd.C_alloc hC _) _) _
      have hB7 : Below w.heap.size w W7 := by rw [hW7]; exact below_alloc (below_alloc (below_alloc hB2 _) _) _
      clear hW7 hsz
      have hst := chunk_stops (m := m) 4 (by omega) (W2.heap.size + 1) (W2.heap.size + 1 + 1) gs (cs - 1) W2.heap.size (by omega) W7 (by omega) (by omega) (by omega) (by omega) hcap ad hadm hx7 hy7
      go_wp2_with fail
      refine (wpIn_wide (n := 5)).1 ?_
      refine wpIn_rangeFunc_ownG rfl (by omega) (gf := 55) (lb := #[.pointer (some ⟨W2.heap.size + 1, 0, none⟩), .pointer (some ⟨W2.heap.size + 1 + 1, 0, none⟩)]) rfl trivial (enters_of Tryd.func55 (by kernel_rfl) rfl) hst (fun h k => h.trans k) beside_b (Below.refl _ _) (fun _ => rfl)
        (fun pre W => ((Beside W2.heap.size W7.heap.size W7 W ∧ W7.heap.size ≤ W.heap.size) ∧ ∃ vc, W.heap[W2.heap.size]? = some (.cells #[.int .i64 (rdOf 0 t 0), vc] 31 (0, 0)) ∧ Kd.R k26 26 W W7.heap.size (fun _ => True) vc (pre.map (fun x => ppClue t x.val))) ∧ Below w.heap.size w W)
        (fun _ _ _ => False)
        (OwnFrom.and (fun pre A B row hs hg hr => by
          obtain ⟨⟨h1, h0⟩, vc, h2, h3⟩ := hs
          refine ⟨⟨fun k hk hn => (hg.block k (by omega) (fun e => ?_)).trans (h1 k hk hn), Nat.le_trans h0 hg.size⟩, vc, blk_grown h2 hg (fun e => ?_), R_walk h3 hg (fun r e => (hr r e).2)⟩
          · have := (hr k e.symm).1
            omega
          · obtain ⟨o, ho, hi⟩ := (hr _ e.symm).2
            rw [h2] at ho
            cases ho
            cases hi) (ownFrom_below (Nat.le_refl _) (by omega)))
        (fun _ _ _ _ _ hs _ _ => hs)
        ⟨⟨⟨Beside.refl _ _ _, Nat.le_refl _⟩, _, hp7, Kd.R_nil _ _ _ _ _⟩, hB7⟩
        (fun x => { tmps := #[.string a0, undef, .pointer (some ⟨w.heap.size, 0, none⟩), .bool false, .slice (some ⟨gs, 0, none⟩) (3 * m + 1) cs, .bool true, .pointer (some ⟨W2.heap.size, 0, none⟩), .slice (some ⟨gs, 1 + 3 * x.val, none⟩) 3 3, .tuple #[.slice (some ⟨gs, 0, none⟩) (3 * m + 1) cs, .bool true], .string a0, .tuple #[.slice (some ⟨gs, 0, none⟩) (3 * m + 1) cs, .bool true], .slice (some ⟨gs, 0, none⟩) (3 * m + 1) cs, .bool true, .bool true, .bool false, .bool false, .slice (some ⟨gs, 0, none⟩) (3 * m + 1) cs, .int .i64 (3 * (m : Int) + 1), .int .i64 1, .bool false, .bool false, undef, .slice (some ⟨gs, 0, none⟩) (3 * m + 1) cs, .pointer (some ⟨gs, 0, none⟩), .int .i64 (rdOf 0 t 0), .agg #[.int .i64 (rdOf 0 t 0), .slice none 0 0], .slice (some ⟨gs, 0, none⟩) (3 * m + 1) cs, .slice ad (3 * m) (cs - 1), .func (.func 55) #[] #[.pointer (some ⟨W2.heap.size + 1, 0, none⟩), .pointer (some ⟨W2.heap.size + 1 + 1, 0, none⟩)], .slice (some ⟨gs, 1 + 3 * x.val, none⟩) 3 3, undef, undef, undef, undef, undef, undef, undef, undef, undef, undef, undef, undef, undef, undef, undef, undef, undef, undef, undef, undef, undef, undef, undef, undef, undef, undef], defers := [] }) ?assign ?body ?done ?stop
      case assign =>
        intro l x W K hK
        gi_wp2
        exact hK
      case stop =>
        rintro D c pre W _ _ hx _
        exact hx.elim
      case done =>
        have hDD : w.heap.size ≤ W7.heap.size ∧ w.heap.size < W7.heap.size ∧ w.heap.size ≠ W2.heap.size := ⟨by omega, by omega, by omega⟩
        have hml : t.length / 3 = m := by omega
        clear hst hC7 hp7 hx7 hy7 hB7 hB2 hC hb hR hG hres2 hB1 hq0 hsl hadm hcap
        rintro D ys W hD rfl ⟨⟨⟨hbe, hle⟩, vc, hpv, hrow⟩, hB⟩ hK
        rw [ch_map (ppClue t) m (Nat.le_refl _)] at hrow
        have hpc : (List.range m).map (ppClue t) = ppClues t := by unfold ppClues; rw [hml]
        rw [hpc] at hrow
        have hT3 := hT2.out.below hB
        unfold impl_ParsePuzzle.g at h
        obtain ⟨b1, hb1, h⟩ := Option.bind_eq_some_iff.1 h
        generalize ppClues t = ps at h hb1 hrow
        generalize rdOf 0 t 0 = q at h hb1 hpv ⊢
        obtain ⟨Av, cv, rfl⟩ := Kd.R_slice hrow
        obtain ⟨_, hcv, hCv⟩ := Kd.R_reads' hrow
        obtain ⟨p1, p2⟩ := pp_cells hpv
        have hrs : W.heap[w.heap.size]? = some (.cells #[.int .i64 0, .slice none 0 0] 31 (0, 0)) := (hbe w.heap.size hDD.2.1 hDD.2.2).trans hr7
        have hDl := blk_lt hK
        have hDw : w.heap.size ≤ D := by omega
        have hDne : D ≠ w.heap.size := by omega
        clear hD hDD
        go_wp2_with fail
        refine (impl_IsPuzzle.calls k q Av cv ps b1 W hCv (by omega) hb1).mono ?_
        rintro e W8 ⟨rfl, hb8⟩
        have hB8 := below_step hB hb8
        have hrs8 := blk_below hrs hb8
        have hK8 := blk_below hK hb8
        have hpv8 := blk_below hpv hb8
        have hrow8 := Kd.R_below hrow hb8
        have hT8 := hT2.out.below hB8
        clear hB hrs hK hpv hrow hbe hT3 hCv p1 p2
        cases b1 with
        | false =>
          simp only [Bool.false_eq_true, if_false, Option.some.injEq, Prod.mk.injEq] at h
          obtain ⟨rfl, rfl, rfl⟩ := h
          obtain ⟨s1, s2, s3, s4, s5⟩ := pp_two hrs8 (.int .i64 0) (.slice none 0 0)
          obtain ⟨e1, e2, e3⟩ := pp_end hK8 hrs8 (.int .i64 0) (.slice none 0 0)
          go_wp2_with fail
          refine ⟨by simp, .inl ⟨_, _, rfl, run_takeDeferred e1, ?_⟩⟩
          refine ⟨.tuple #[.agg #[.int .i64 0, .slice none 0 0], .bool false], ?res, _, rfl, Kd.R_nil _ _ _ _ _, pp_out hB8 (Nat.le_refl _) hDw hK8 hDne _ _⟩
          case res =>
            unfold results
            simp only [Tryd.f15]
            go_simp
        | true =>
          rw [if_pos rfl] at h
          obtain ⟨sx, hsx, h⟩ := Option.bind_eq_some_iff.1 h
          obtain ⟨p1, p2⟩ := pp_cells hpv8
          obtain ⟨_, hcv8, hCv8⟩ := Kd.R_reads' hrow8
          go_wp2_with fail
          refine (impl_puzzleText.calls k q Av cv ps sx W8 hCv8 (by omega) hT8 hsx).mono ?_
          rintro e W9 ⟨rfl, hb9⟩
          have hB9 := below_step hB8 hb9
          have hrs9 := blk_below hrs8 hb9
          have hK9 := blk_below hK8 hb9
          have hpv9 := blk_below hpv8 hb9
          have hrow9 := Kd.R_below hrow8 hb9
          clear hB8 hrs8 hK8 hpv8 hrow8 hT8 hCv8 p1 p2
          by_cases hs : sx = a0
          · rw [if_pos hs] at h
            simp only [Option.some.injEq, Prod.mk.injEq] at h
            obtain ⟨rfl, rfl, rfl⟩ := h
            subst hs
            have hne : sx.toList = sx.toList := rfl
            obtain ⟨p1, p2⟩ := pp_cells hpv9
            obtain ⟨s1, s2, s3, s4, s5⟩ := pp_two hrs9 (.int .i64 q) (.slice Av ps.length cv)
            obtain ⟨e1, e2, e3⟩ := pp_end hK9 hrs9 (.int .i64 q) (.slice Av ps.length cv)
            go_wp2_with fail
            refine ⟨by simp, .inl ⟨_, _, rfl, run_takeDeferred e1, ?_⟩⟩
            have hr1 := Kd.R_set (Kd.R_set hrow9 hrs9 (by decide) 0 (.int .i64 q)) (blk_set hrs9 0 (.int .i64 q)) (by decide) 1 (.slice Av ps.length cv)
            have hr2 := R_walk hr1 (grownBy_putObj' _ D (.deferred none)) (fun r e => by cases e; exact ⟨_, e1, rfl⟩)
            refine ⟨.tuple #[.agg #[.int .i64 q, .slice Av ps.length cv], .bool true], ?res, _, rfl, Kd.R_lower hr2 (by omega), pp_out hB9 (Nat.le_refl _) hDw hK9 hDne _ _⟩
            case res =>
              unfold results
              simp only [Tryd.f15]
              go_simp
          · rw [if_neg hs] at h
            simp only [Option.some.injEq, Prod.mk.injEq] at h
            obtain ⟨rfl, rfl, rfl⟩ := h
            have hne : ¬ sx.toList = a0.toList := fun e => hs (by rw [ByteArray.toList_eq, ByteArray.toList_eq] at e; exact ByteArray.ext (Array.toList_inj.1 e))
            have hne2 : (sx.toList == a0.toList) = false := beq_eq_false_iff_ne.2 hne
            obtain ⟨s1, s2, s3, s4, s5⟩ := pp_two hrs9 (.int .i64 0) (.slice none 0 0)
            obtain ⟨e1, e2, e3⟩ := pp_end hK9 hrs9 (.int .i64 0) (.slice none 0 0)
            go_wp2_with fail
            refine ⟨by simp, .inl ⟨_, _, rfl, run_takeDeferred e1, ?_⟩⟩
            refine ⟨.tuple #[.agg #[.int .i64 0, .slice none 0 0], .bool false], ?res, _, rfl, Kd.R_nil _ _ _ _ _, pp_out hB9 (Nat.le_refl _) hDw hK9 hDne _ _⟩
            case res =>
              unfold results
              simp only [Tryd.f15]
              go_simp
      case body =>
        rintro l pre x W ⟨⟨⟨hbe, hle⟩, vc, hpv, hrow⟩, hB⟩ hlt
        have hgs : gs < W7.heap.size ∧ gs ≠ W2.heap.size := ⟨by omega, by omega⟩
        obtain ⟨R, hRI⟩ : ∃ R : World → Prop, R = fun W' => KeepsFrom W7.heap.size W W' ∧ Beside W2.heap.size W7.heap.size W W' ∧ ((Beside W2.heap.size W7.heap.size W7 W' ∧ W7.heap.size ≤ W'.heap.size) ∧ ∃ vc, W'.heap[W2.heap.size]? = some (.cells #[.int .i64 (rdOf 0 t 0), vc] 31 (0, 0)) ∧ Kd.R k26 26 W' W7.heap.size (fun _ => True) vc ((pre ++ [x]).map (fun x => ppClue t x.val))) ∧ Below w.heap.size w W' := ⟨_, rfl⟩
        refine wpIn_mono (Q := lfPost R) ?_ (lfPost_to (fun W' h => by rw [hRI] at h; exact h))
        have hfold : (pre ++ [x]).map (fun x => ppClue t x.val) = pre.map (fun x => ppClue t x.val) ++ [ppClue t x.val] := by simp
        rw [hfold] at hRI
        have hpl : pre.length ≤ 100000000 := by omega
        have hpl2 : (pre.map (fun x => ppClue t x.val)).length ≤ 100000000 := by rw [List.length_map]; exact hpl
        generalize pre.map (fun x => ppClue t x.val) = ps at hRI hrow hpl2
        clear hfold hpl
        have hxl := x.isLt
        have hcell : ∀ i, 1 + 3 * x.val ≤ i → i < 1 + 3 * x.val + 3 → W.cell? ⟨gs, i, none⟩ = some (.int .i64 (rdOf 0 t (i : Int))) := fun i h1 h2 => by
          obtain ⟨ad', e', hx'⟩ := Kd.at_int hC7 (i : Int) (by omega) (by omega)
          cases e'
          rw [Int.toNat_natCast] at hx'
          have h3 : (⟨gs, 0, none⟩ : Addr).add i = ⟨gs, i, none⟩ := by rw [pp_add, Nat.zero_add]
          rw [h3] at hx'
          exact (hbe.cell (p := ⟨gs, i, none⟩) hgs.1 hgs.2).trans hx'
        obtain ⟨Av, cv, rfl⟩ := Kd.R_slice hrow
        obtain ⟨j, hj⟩ : ∃ j, x.val = j := ⟨_, rfl⟩
        have hl0 := hcell (1 + 3 * x.val) (by omega) (by omega)
        have hl1 := hcell (1 + 3 * x.val + 1) (by omega) (by omega)
        have hl2 := hcell (1 + 3 * x.val + 2) (by omega) (by omega)
        have hv1 := (pp_cells hpv).2
        unfold ppClue at hRI
        dsimp only
        rw [hj] at hRI hl0 hl1 hl2 ⊢
        generalize rdOf 0 t ((1 + 3 * j : Nat) : Int) = x0 at hRI hl0
        generalize rdOf 0 t ((1 + 3 * j + 1 : Nat) : Int) = x1 at hRI hl1
        generalize rdOf 0 t ((1 + 3 * j + 2 : Nat) : Int) = x2 at hRI hl2
        have HRI := am hRI
        have HROW := am hrow
        have HBE := am hbe
        have HPV := am hpv
        have HBB := am hB
        have HLE := am hle
        have HP := am hpl2
        clear hcell hRI hrow hbe hpv hB hst hC7 hp7 hr7 hx7 hy7 hB7 hlt hT2 hB2 hC hb hR hG hres2 hB1 hq0 hsl hadm hcap hle hpl2
        gi_upto_region 7 with (fail)
        refine mild_region (by kernel_rfl) (n := 16) (S := (fun w' => w'.cell? ⟨W2.heap.size, 1, none⟩ = some (.slice Av ps.length cv) ∧ w'.cell? ⟨gs, 1 + 3 * j, none⟩ = some (.int .i64 x0) ∧ w'.cell? ⟨gs, 1 + 3 * j + 1, none⟩ = some (.int .i64 x1) ∧ w'.cell? ⟨gs, 1 + 3 * j + 2, none⟩ = some (.int .i64 x2) ∧ True)) (ds := [13, 15]) #[false, false, false, false, false, false, false, false, false, false, false, false, false, false, false, false] (by kernel_rfl) rfl rfl ⟨hv1, hl0, hl1, hl2, trivial⟩ (fun hHeld => ?_)
        refine pure_ (i := 0) (N := some 30) (v := ?_) (a' := ?_) #[true, false, false, false, false, false, false, false, false, false, false, false, false, false, false, false] rfl rfl (by kernel_rfl) (fun _ _ _ h => h) (Or.inl ⟨by rfl, ?_⟩) ?_ ?_
        rotate_left
        ·intro w'
         go_simp
         with_reducible rfl
        rotate_left
        ·simp only [Act.put, List.setIfInBounds_toArray, List.set_cons_zero, List.set_cons_succ, i64_w, i32_w]
         rfl
        refine take_ (i := 1) (N := some 31) (v := ?_) (a' := ?_) #[true, true, false, false, false, false, false, false, false, false, false, false, false, false, false, false] rfl rfl (by kernel_rfl) (fun _ _ _ h => h) (Or.inl ⟨by rfl, ?_⟩) hHeld ?_ ?_
        rotate_left
        ·rintro w' ⟨s0, s1, s2, s3, s4⟩
         go_simp
         with_reducible rfl
        rotate_left
        ·simp only [Act.put, List.setIfInBounds_toArray, List.set_cons_zero, List.set_cons_succ, i64_w, i32_w]
         rfl
        refine pure_ (i := 2) (N := some 32) (v := ?_) (a' := ?_) #[true, true, true, false, false, false, false, false, false, false, false, false, false, false, false, false] rfl rfl (by kernel_rfl) (fun _ _ _ h => h) (Or.inl ⟨by rfl, ?_⟩) ?_ ?_
        rotate_left
        ·intro w'
         go_simp
         with_reducible rfl
        rotate_left
        ·simp only [Act.put, List.setIfInBounds_toArray, List.set_cons_zero, List.set_cons_succ, i64_w, i32_w]
         rfl
        refine pure_ (i := 3) (N := some 33) (v := ?_) (a' := ?_) #[true, true, true, true, false, false, false, false, false, false, false, false, false, false, false, false] rfl rfl (by kernel_rfl) (fun _ _ _ h => h) (Or.inl ⟨by rfl, ?_⟩) ?_ ?_
        rotate_left
        ·intro w'
         go_simp
         with_reducible rfl
        rotate_left
        ·simp only [Act.put, List.setIfInBounds_toArray, List.set_cons_zero, List.set_cons_succ, i64_w, i32_w]
         rfl
        refine take_ (i := 4) (N := some 34) (v := ?_) (a' := ?_) #[true, true, true, true, true, false, false, false, false, false, false, false, false, false, false, false] rfl rfl (by kernel_rfl) (fun _ _ _ h => h) (Or.inl ⟨by rfl, ?_⟩) hHeld ?_ ?_
        rotate_left
        ·rintro w' ⟨s0, s1, s2, s3, s4⟩
         go_simp
         with_reducible rfl
        rotate_left
        ·simp only [Act.put, List.setIfInBounds_toArray, List.set_cons_zero, List.set_cons_succ, i64_w, i32_w]
         rfl
        refine pure_ (i := 5) (N := some 35) (v := ?_) (a' := ?_) #[true, true, true, true, true, true, false, false, false, false, false, false, false, false, false, false] rfl rfl (by kernel_rfl) (fun _ _ _ h => h) (Or.inl ⟨by rfl, ?_⟩) ?_ ?_
        rotate_left
        ·intro w'
         go_simp
         with_reducible rfl
        rotate_left
        ·simp only [Act.put, List.setIfInBounds_toArray, List.set_cons_zero, List.set_cons_succ, i64_w, i32_w]
         rfl
        refine pure_ (i := 6) (N := some 36) (v := ?_) (a' := ?_) #[true, true, true, true, true, true, true, false, false, false, false, false, false, false, false, false] rfl rfl (by kernel_rfl) (fun _ _ _ h => h) (Or.inl ⟨by rfl, ?_⟩) ?_ ?_
        rotate_left
        ·intro w'
         go_simp
         with_reducible rfl
        rotate_left
        ·simp only [Act.put, List.setIfInBounds_toArray, List.set_cons_zero, List.set_cons_succ, i64_w, i32_w]
         rfl
        refine take_ (i := 7) (N := some 37) (v := ?_) (a' := ?_) #[true, true, true, true, true, true, true, true, false, false, false, false, false, false, false, false] rfl rfl (by kernel_rfl) (fun _ _ _ h => h) (Or.inl ⟨by rfl, ?_⟩) hHeld ?_ ?_
        rotate_left
        ·rintro w' ⟨s0, s1, s2, s3, s4⟩
         go_simp
         with_reducible rfl
        rotate_left
        ·simp only [Act.put, List.setIfInBounds_toArray, List.set_cons_zero, List.set_cons_succ, i64_w, i32_w]
         rfl
        refine pure_ (i := 8) (N := some 38) (v := ?_) (a' := ?_) #[true, true, true, true, true, true, true, true, true, false, false, false, false, false, false, false] rfl rfl (by kernel_rfl) (fun _ _ _ h => h) (Or.inl ⟨by rfl, ?_⟩) ?_ ?_
        rotate_left
        ·intro w'
         go_simp
         with_reducible rfl
        rotate_left
        ·simp only [Act.put, List.setIfInBounds_toArray, List.set_cons_zero, List.set_cons_succ, i64_w, i32_w]
         rfl
        refine pure_ (i := 9) (N := some 39) (v := ?_) (a' := ?_) #[true, true, true, true, true, true, true, true, true, true, false, false, false, false, false, false] rfl rfl (by kernel_rfl) (fun _ _ _ h => h) (Or.inl ⟨by rfl, ?_⟩) ?_ ?_
        rotate_left
        ·intro w'
         go_simp
         with_reducible rfl
        rotate_left
        ·simp only [Act.put, List.setIfInBounds_toArray, List.set_cons_zero, List.set_cons_succ, i64_w, i32_w]
         rfl
        refine take_ (i := 10) (N := some 40) (v := ?_) (a' := ?_) #[true, true, true, true, true, true, true, true, true, true, true, false, false, false, false, false] rfl rfl (by kernel_rfl) (fun _ _ _ h => h) (Or.inl ⟨by rfl, ?_⟩) hHeld ?_ ?_
        rotate_left
        ·rintro w' ⟨s0, s1, s2, s3, s4⟩
         go_simp
         with_reducible rfl
        rotate_left
        ·simp only [Act.put, List.setIfInBounds_toArray, List.set_cons_zero, List.set_cons_succ, i64_w, i32_w]
         rfl
        refine pure_ (i := 11) (N := some 41) (v := ?_) (a' := ?_) #[true, true, true, true, true, true, true, true, true, true, true, true, false, false, false, false] rfl rfl (by kernel_rfl) (fun _ _ _ h => h) (Or.inl ⟨by rfl, ?_⟩) ?_ ?_
        rotate_left
        ·intro w'
         go_simp
         with_reducible rfl
        rotate_left
        ·simp only [Act.put, List.setIfInBounds_toArray, List.set_cons_zero, List.set_cons_succ, i64_w, i32_w]
         rfl
        refine one_ (i := 12) (N := some 42) #[true, true, true, true, true, true, true, true, true, true, true, true, true, false, false, false] rfl rfl (by kernel_rfl) (by decide) (fun K hK => ?_)
        refine value_ (w1 := ?_) (v := ?_) (by rfl) rfl ?_ ?_
        rotate_left 2
        ·go_simp
         constructor
         ·rfl
         ·rfl
        refine hK.out _ _ ⟨(World.cell?_alloc_lt _ _ _ (World.block_lt_of_cell? _ _ (hHeld.1))).trans (hHeld.1), (World.cell?_alloc_lt _ _ _ (World.block_lt_of_cell? _ _ (hHeld.2.1))).trans (hHeld.2.1), (World.cell?_alloc_lt _ _ _ (World.block_lt_of_cell? _ _ (hHeld.2.2.1))).trans (hHeld.2.2.1), (World.cell?_alloc_lt _ _ _ (World.block_lt_of_cell? _ _ (hHeld.2.2.2.1))).trans (hHeld.2.2.2.1), trivial⟩ (fun hHeld => ?_)
        clear hK K
        refine norm_ (a' := ?_) ?_ ?_
        rotate_left
        ·show Act.put _ (some 42) _ = _
         simp only [Act.put, List.setIfInBounds_toArray, List.set_cons_zero, List.set_cons_succ, i64_w, i32_w]
         rfl
        refine last_ (i := 13) (N := some 43) #[true, true, true, true, true, true, true, true, true, true, true, true, true, true, false, false] rfl rfl (by kernel_rfl) (by decide) (fun K hK => ?_)
        refine Kd.R_append_step k26 (W := W.drew) (w0 := W.drew) W7.heap.size (by rfl) (.tmp 31) (.tmp 42) 29 26 (.agg #[(.int .i64 0), (.int .i64 0), (.int .i64 0)]) 24 rfl Tryd.underlying29 info26 rfl (by decide) (by omega) (.slice Av ps.length cv) ps (⟨x0, x1, x2⟩ : S26) [.int .i64 x0, .int .i64 x1, .int .i64 x2] (fun _ => True) (fun _ => False) rfl rfl ?aP (fun _ hk => hk.elim) (fun _ _ => trivial) ?aO ?aB ?aS ?aL ?_
        (case aP => exact k26_mkM _ _ _ (⟨x0, x1, x2⟩ : S26))
        (case aO => exact Kd.R_drew HROW.out)
        (case aB => exact Below.refl _ _)
        (case aS => exact HLE.out)
        (case aL => have := HP.out; omega)
        intro v1 w1 ho hb hg hat
        have hps : w1.heap[W2.heap.size]? = some (.cells #[.int .i64 (rdOf 0 t 0), .slice Av ps.length cv] 31 (0, 0)) := (hb.block W2.heap.size (by omega)).trans HPV.out
        have hty := Kd.R_typed HROW.out
        have hko : KeepsOthers W.drew w1 := KeepsOthers.of_grownBy hg (fun j o e h => by obtain ⟨cells, hc⟩ := hty j e.symm.symm; have h' : W.heap[j]? = some o := h; rw [hc] at h'; cases h'; rfl)
        obtain ⟨A1, c1, rfl⟩ := Kd.R_slice ho
        have q1 := (pp_cells hps).2
        have q2 := blk_frozen hps 1
        refine hK.out _ _ ?_
        clear hK K
        refine norm_ (a' := ?_) ?_ ?_
        rotate_left
        ·show Act.put _ (some 43) _ = _
         simp only [Act.put, List.setIfInBounds_toArray, List.set_cons_zero, List.set_cons_succ, i64_w, i32_w]
         rfl
        refine pure_ (i := 14) (N := some 44) (v := ?_) (a' := ?_) #[true, true, true, true, true, true, true, true, true, true, true, true, true, true, true, false] rfl rfl (by kernel_rfl) (fun _ _ _ h => h) (Or.inl ⟨by rfl, ?_⟩) ?_ ?_
        rotate_left
        ·intro w'
         go_simp
         with_reducible rfl
        rotate_left
        ·simp only [Act.put, List.setIfInBounds_toArray, List.set_cons_zero, List.set_cons_succ, i64_w, i32_w]
         rfl
        refine last_ (i := 15) (N := none) #[true, true, true, true, true, true, true, true, true, true, true, true, true, true, true, true] rfl rfl (by kernel_rfl) (by decide) (fun K hK => ?_)
        refine skip_ (w1 := ?_) (by rfl) rfl ?_ ?_
        rotate_left
        ·go_simp
         rfl
        refine hK.out _ _ ?_
        clear hK K
        refine done_ (by kernel_rfl) (Nout.normal ?_)
        gi_wp2
        show R _
        rw [HRI.out]
        have hkf : KeepsFrom W7.heap.size W (w1.setCell ⟨W2.heap.size, 1, none⟩ (.slice A1 (ps.length + 1) c1)) := (((KeepsOthers.drew W).trans hko).trans (KeepsOthers.setCell _ _ _)).from _
        have hbs : Beside W2.heap.size W7.heap.size W (w1.setCell ⟨W2.heap.size, 1, none⟩ (.slice A1 (ps.length + 1) c1)) := fun k hk hn => (Below.heap_setCell _ _ _ _ hn).trans (hb.block k hk)
        rw [List.length_append, List.length_singleton] at ho
        refine ⟨hkf, hbs, ⟨⟨HBE.out.trans hbs, Nat.le_trans HLE.out hkf.size⟩, _, blk_put hps 1 _ rfl, Kd.R_set ho hps (by decide) _ _⟩, below_set ((below_drew HBB.out).trans (hb.mono (by omega))) (by omega)⟩
end Go.Proofs.YticmboabiemniaaDoor.X
end
