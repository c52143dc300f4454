import Derived.Test.YtfoflpomfmbjoaaDoorP4
import Derived.Test.YtfoflpomfmbjoaaDoorP9
import Derived.Deep.RegionLaw
import Derived.Laws.CopyOwn
import Derived.RangeFuncNested
import Derived.RangeFuncBound
import Derived.RangeFuncCalls
import Derived.RangeFuncLeaves
import Derived.RangeFuncWrites
import Derived.Shelf.Abstract
import Derived.Shelf.RegionOpen
import Derived.WalkKit
import Derived.OwnWalkIn
import Derived.TacticsInMore
import Derived.LoopNIn
import Derived.LoopIn
import Derived.Sort.LoopGhostIn
import Derived.Sort.CutIn
import Derived.OrdersIn
import Derived.TacticsIn
set_option maxHeartbeats 8000000
set_option maxRecDepth 100000
section
namespace Go.Proofs.YtfoflpomfmbjoaaDoor.X
open Go.Proofs.YtfoflpomfmbjoaaDoor.Sq Go.RowKit Go.Proofs.YtfoflpomfmbjoaaDoorW.PrintWords Go.Proofs.YtfoflpomfmbjoaaDoorW.PrintLast Go.Proofs.YtfoflpomfmbjoaaDoorW.PrintMore
attribute [local go_sem] max2_int min2_int max_two min_two max_three min_three max_four min_four   -- for this text's walks alone
set_option linter.unusedVariables false
set_option linter.unusedSimpArgs false
def mildOp : Op → Bool
 | .move _ => true
 | .assign _ => true
 | .pick _ _ _ => true
 | .binOp _ _ _ _ _ => true
 | .load _ _ => true
 | .store _ _ _ => true
 | .indexAddr _ _ _ => true
 | _ => false
def mildRes : Result Next → Prop
 | .ok (.value _) _ => True
 | .ok .skip _ => True
 | .halt _ _ => True
 | _ => False
theorem mild_v {P : Program} {w : World} (s : Sem Value) : mildRes ((do pure (Next.value (← s)) : Sem Next).run P w) := by
  rw [Sem.run_bind]
  generalize s.run P w = r
  cases r <;> simp [Result.andThen, mildRes, Sem.run_pure]
theorem mild_u {P : Program} {w : World} (s : Sem Unit) : mildRes ((do s; pure Next.skip : Sem Next).run P w) := by
  rw [Sem.run_bind]
  generalize s.run P w = r
  cases r <;> simp [Result.andThen, mildRes, Sem.run_pure]
theorem mild_run {P : Program} {w : World} (ρ : Operand → Value) (o : Oper) (h : mildOp o.op = true) : mildRes ((execOp ρ o).run P w) := by
  unfold execOp
  cases ho : o.op <;> rw [ho] at h <;> first | (simp [mildOp] at h; done) | skip
  · simp [mildRes, Sem.run_pure]
  · simp [mildRes, Sem.run_pure]
  · rw [Sem.run_bind]
    generalize (asBool _).run P w = r
    cases r <;> simp [Result.andThen, mildRes, Sem.run_pure]
  · exact mild_v _
  · exact mild_u _
  · exact mild_v _
  · exact mild_v _
def Nout (Q : Exit → Act → World → Prop) : Exit → Act → World → Prop
 | .outgrown, _, _ => False
 | e, a, w => Q e a w
theorem Nout.lets {Q : Exit → Act → World → Prop} (h : LetsOut (Nout Q)) : False := by
  obtain ⟨a, w, h⟩ := h
  exact h
theorem mild_about {P : Program} {w : World} {ρ : Operand → Value} {o : Oper} (h : mildOp o.op = true) : o.about P w ρ = none := by
  unfold Oper.about
  cases ho : o.op <;> rw [ho] at h <;> first | rfl | (simp [mildOp] at h; done)
theorem mild_wpIn {F : Fence} {n : Nat} {P : Program} {o : Oper} {a : Act} {w : World} {K K' : Act → World → Prop} {Q : Exit → Act → World → Prop} (hm : mildOp o.op = true) (hK : ∀ a w, K a w → K' a w)
    (h : o.wp P a w K (Nout Q) ∨ (o.asks P a w ∧ LetsOut (Nout Q))) : o.wpIn F n P a w K' Q := by
  obtain h := h.resolve_right (fun h => Nout.lets h.2)
  refine ⟨fun f hf => (by rw [mild_about hm] at hf; cases hf), ?_⟩
  rw [Oper.semAt_eq _ _ _ (fun c hc => by rw [hc] at hm; cases hm)]
  have hr := mild_run (P := P) (w := w) a.eval o hm
  unfold Oper.wp at h
  generalize (execOp a.eval o).run P w = r at *
  cases r with
  | ok x w' => cases x <;> simp only [mildRes] at hr <;> simp only [Oper.upon, Oper.uponIn] at h ⊢ <;> exact hK _ _ h
  | halt x w' => cases x <;> simp only [Oper.upon, Oper.uponIn] at h ⊢ <;> exact h
theorem mild_ops {F : Fence} {n : Nat} {P : Program} {ops : Array Oper} {Q : Exit → Act → World → Prop} (hm : ∀ (i : Nat) (o : Oper), ops[i]? = some o → mildOp o.op = true) : ∀ (l : List Nat) (a : Act) (w : World), wpOps P ops (Nout Q) l a w → wpOpsIn F n P ops Q l a w
 | [], a, w, h => h
 | i :: rest, a, w, h => by
  rw [wpOps_cons] at h
  rw [wpOpsIn_cons]
  unfold wpOp at h
  unfold wpOpIn
  cases ho : ops[i]? with
  | none =>
    rw [ho] at h
    exact mild_ops hm rest a w h
  | some o =>
    rw [ho] at h
    simp only at h ⊢
    split at h
    · rename_i hw
      rw [if_pos hw]
      exact mild_wpIn (hm i o ho) (fun a w => mild_ops hm rest a w) h
    · rename_i hw
      rw [if_neg hw]
      exact ⟨fun f hf => (by rw [mild_about (hm i o ho)] at hf; cases hf), mild_ops hm rest _ _ h⟩
theorem mild_region {F : Fence} {m : Nat} {P : Program} {ops : Array Oper} {Q : Exit → Act → World → Prop} {S : World → Prop} {ds : List Nat} {id n : Nat} {a : Act} {w : World} (hall : ops.all (fun o => mildOp o.op) = true)
    (l : Array Bool) (hf : P.follows .mixedOrders = true) (hn : ops.size = n) (hl : Array.replicate n false = l) (hS : S w.drew)
    (h : S w.drew → wpAnyLast P .any ops (Nout Q) S ds n l a w.drew) : (Code.region id ops true).wpIn F m P Q a w := by
  subst hn
  subst hl
  refine wpIn_region_draw fun t => ?_
  refine mild_ops (fun i o ho => ?_) _ _ _ ?_
  · rw [Array.all_eq_true] at hall
    obtain ⟨hi, rfl⟩ := Array.getElem?_eq_some_iff.1 ho
    exact hall i hi
  · simp only [Region.schedule, hf, Bool.true_or, if_true]
    exact wpAny_sound ops.size t _ a _ (wpAny_of_last _ _ _ _ (h hS))
theorem slices_Repeat.mul : ∀ m : Fin 129, bits_Mul.f 1 ((m.val : Nat) : Int) = some (0, ((m.val : Nat) : Int)) := by decide
theorem slices_Repeat.calls (A0 : Option Addr) (c0 : Nat) (x : Int) (m : Nat) (w : World) (hr0 : Kd.C (Kd.int .i64) w A0 1 [x]) (hc0 : 1 ≤ c0) (h1 : 1 ≤ m) (h2 : m ≤ 128) :
  Calls Tryd.prog 92 #[.slice A0 1 c0, .int .i64 (m : Int)] w fun e w' => ∃ v0_ : Value, e = .returned (v0_) ∧ Kd.R (Kd.int .i64) 3 w' w.heap.size (fun _ => True) v0_ (List.replicate m x) ∧ Below w.heap.size w w' := by
  have hmul := slices_Repeat.mul ⟨m, by omega⟩; simp only at hmul; have hn : decide ((m : Int) < 0) = false := decide_eq_false (by omega)
  have hw : IntKind.u64.wrap (m : Int) = (m : Int) := by
    have : (m : Int) % 18446744073709551616 = (m : Int) := Int.emod_eq_of_lt (by omega) (by omega); simp [IntKind.wrap, IntKind.signed, IntKind.bits]; exact this
  have hbig : decide ((9223372036854775807 : Int) < (m : Int)) = false := decide_eq_false (by omega); obtain ⟨i03, hi03, _, hsz3, _⟩ := info_parts info3; (have hmin : min 1 (List.replicate m (0 : Int)).length = 1 := by rw [List.length_replicate]; omega); have HR := am hr0; have HB := am (Below.refl w.heap.size w); go_enter Tryd.func92, Tryd.ntmps92; go_wp2_with (first | ((with_reducible refine gate_callee (f := 109) rfl ?_); refine goesL_ (some 18) rfl rfl Tryd.func109 (by kernel_rfl) rfl #[.int .u64 1, .int .u64 (m : Int)] rfl (by (try simp only [List.map_toArray, List.map_cons, List.map_nil]); first | done | rfl | (simp [hw]; done)) ?_; (with_reducible refine (bits_Mul.calls 1 (m : Int) 0 (m : Int) _ hmul).mono ?_); rintro e w' ⟨rfl, ⟨nd, rfl⟩⟩; refine ⟨_, rfl, ?_⟩) | ((with_reducible refine gate_dst (N := 30) rfl ?_); refine Kd.R_make (Kd.int .i64) _ 3 rfl (N := 30) rfl 26 _ _ rfl (m : Int) rfl rfl Tryd.underlying26 (.int .i64 0) 8 info3 rfl (by decide) (by omega) 0 (ok := fun _ => True) (okp := fun _ => True) rfl (fun _ hk => hk) trivial (by omega) (by omega) (Below.refl _ _) (Nat.le_refl _) ?_; intro v1 w1 ho hb hg_ hnew_; clear hg_ hnew_; have HO := am (Kd.R_lower ho (below_size (hbS HB.out))); have HBn := am (below_step (hbS HB.out) hb); have HRn := am (Kd.C_below (Kd.C_drewN HR.out nd) hb); (replace HO := am (show Kd.R (Kd.int .i64) 3 _ _ _ v1 (List.replicate m 0) from HO.out)); obtain ⟨go, co, ev, gb, gl, cl, HG⟩ := Kd.R_form HO.out (by rw [List.length_replicate]; omega); rw [List.length_replicate] at ev; subst ev; clear ho hb HB; have HB := HBn; clear HBn) | ((with_reducible refine gate_dst (N := 33) rfl ?_); refine Kd.R_copy (0 : Int) w.heap.size rfl (.tmp 31) (.tmp 32) 26 26 3 rfl Tryd.underlying26 (by rw [hi03]; exact congrArg some hsz3) (.slice (some ⟨go, 0, none⟩) m co) (List.replicate m 0) [x] A0 1 c0 (fun _ => True) rfl rfl HO.out HRn.out HB.out (below_size HB.out) ?_; intro w2 ho2 hb2 hg2; rw [hmin] at ho2; (try rw [hmin]); rw [show ([x].take 1 ++ (List.replicate m (0 : Int)).drop 1) = List.replicate 1 x ++ List.replicate (m - 1) 0 by simp] at ho2; clear HO HB HG HRn; have HO := am ho2; have HB := am hb2; clear ho2 hb2 hg2)); have hown := Kd.own_of_R HO.out
  obtain ⟨cur0, hh0, hcm0, hcs0, ht0⟩ : ∃ cur : List Value, w2.heap[go]? = some (.cells cur.toArray 3 (0, 0)) ∧ (m ≤ co ∧ co ≤ maxLen) ∧ cur.length = co ∧ cur.take 1 = List.replicate 1 (.int .i64 x) := by
    rcases hown.2 with ⟨hv, _⟩ | ⟨g', cap', cur, hv, hb, hh, h5, h6, h7, h8⟩
    ·cases hv
    injection hv with ha _ hcc; injection ha with ha; injection ha with ha; subst ha; subst hcc; (have hlen : (List.replicate 1 x ++ List.replicate (m - 1) (0 : Int)).length = m := by simp; omega); rw [hlen] at h5 h8; refine ⟨cur.toList, by simpa using hh, ⟨h5, h6⟩, by simpa using h7, ?_⟩; have h9 := congrArg (List.take 1) h8; rw [List.take_take, Nat.min_eq_left (by omega)] at h9; rw [h9]; simp [encs]
  have HH := am hh0; have HT := am ht0; have HS := am hcs0; clear HO hown hh0 ht0 hcs0; go_loopg [8] m (fun kq v8 w' => ∃ (n : Nat) (cur : List Value), v8 = .int .i64 (n : Int) ∧ Aside0 (1 ≤ n ∧ n ≤ m) ∧ Aside0 (m - n ≤ kq) ∧ Aside0 (w'.heap[go]? = some (.cells cur.toArray 3 (0, 0))) ∧ Aside0 (cur.length = co) ∧ Aside0 (cur.take n = List.replicate n (.int .i64 x)) ∧ Aside0 (Below w.heap.size w w'))
  case atStart => exact ⟨1, cur0, rfl, ⟨by omega⟩, ⟨by omega⟩, HH, HS, HT, HB⟩
  case round =>
    clear HB HH HT HS; obtain ⟨n, cur, rfl, HN, HK, HH, HS, HT, HB⟩ := hrel; by_cases hc : (n : Int) < (m : Int)
    · have hc0 : decide ((n : Int) < (m : Int)) = true := decide_eq_true hc
      obtain ⟨k1, rfl⟩ : ∃ k1, gk = k1 + 1 := ⟨gk - 1, by have := HK.out; omega⟩; have hn1 := HN.out.1; have hcf := cut_from (P := Tryd.prog) 26 3 .i64 Tryd.underlying26 hi03 1 hsz3 (some ⟨go, 0, none⟩) m co (n : Int) (by omega) (by omega); have hct := cut_to (P := Tryd.prog) 26 3 .i64 Tryd.underlying26 hi03 (some ⟨go, 0, none⟩) m co (n : Int) (by omega) (by omega) hcm0.1; rw [Int.toNat_natCast] at hcf hct
      have hA : (if co = n then some (⟨go, 0, none⟩ : Addr) else (some (⟨go, 0, none⟩ : Addr)).map (·.add (n * 1))) = some ⟨go, n, none⟩ := by
        rw [if_neg (by omega)]; (have : n ≠ 0 := by omega); simp [Addr.add, this]
      rw [hA] at hcf; clear hA; have hlc : (List.replicate (Nat.min n (m - n)) (Value.int .i64 x)).length = Nat.min n (m - n) := List.length_replicate
      have hcell : ∀ j v, (List.replicate (Nat.min n (m - n)) (Value.int .i64 x))[j]? = some v → wr.cell? ((⟨go, 0, none⟩ : Addr).add j) = some v := by
        intro j v hj
        have hj2 : j < Nat.min n (m - n) := by
          have := (List.getElem?_eq_some_iff.1 hj).1
          rwa [List.length_replicate] at this
        have hjn : j < n := Nat.lt_of_lt_of_le hj2 (Nat.min_le_left _ _); (have hv : v = .int .i64 x := by rw [List.getElem?_replicate, if_pos hj2] at hj; exact (Option.some.inj hj).symm)
        have had : ((⟨go, 0, none⟩ : Addr).add j) = ⟨go, j, none⟩ := by
          by_cases h0 : j = 0
          ·subst h0; rfl
          ·simp [Addr.add, h0]
        have hcj : cur[j]? = some (.int .i64 x) := by
          have h9 := congrArg (fun l : List Value => l[j]?) HT.out; simp only [List.getElem?_take, if_pos hjn, List.getElem?_replicate] at h9; exact h9
        rw [had, cell_of_row _ go _ _ 3 (0, 0) HH.out, hv]; simp [hcj]
      have hmin1 : Nat.min n (m - n) ≤ n ∧ Nat.min n (m - n) ≤ m - n ∧ 1 ≤ Nat.min n (m - n) := ⟨Nat.min_le_left _ _, Nat.min_le_right _ _, by rw [Nat.le_min]; omega⟩; obtain ⟨q, hq⟩ : ∃ q, q = Nat.min n (m - n) := ⟨_, rfl⟩; rw [← hq] at hlc hcell hmin1; (have hfit : n + (List.replicate q (Value.int .i64 x)).length ≤ cur.length := by rw [hlc, HS.out]; omega); go_wp2_with fail; have HC := am hcell; have HL := am hlc; have HF := am hfit; have HQ := am hq; have HM := am hmin1; have HCN := am hc; have HI := am hi03; have HZ := am hsz3; have HGB := am gb; clear hcell hlc hfit hq hmin1 hn1 hc hcm0 hw hbig hn hmul hmin hi03 hsz3 gb; refine start_ (n := 10) (S := fun _ => True) (ds := [7]) #[false, false, false, false, false, false, false, false, false, false] (by kernel_rfl) rfl rfl trivial (fun _ => ?_); refine pure_ (i := 0) (N := some 38) (v := ?_) (a' := ?_) #[true, false, false, false, false, false, false, false, false, false] rfl rfl (by kernel_rfl) (fun _ _ _ h => h) (Or.inl ⟨by rfl, ?_⟩) ?_ ?_; rotate_left
      ·intro w'; go_simp; with_reducible rfl
      rotate_left
      ·simp only [Act.put, List.setIfInBounds_toArray, List.set_cons_zero, List.set_cons_succ, i64_w, i32_w]; rfl
      refine pure_ (i := 1) (N := some 39) (v := ?_) (a' := ?_) #[true, true, false, false, false, false, false, false, false, false] rfl rfl (by kernel_rfl) (fun _ _ _ h => h) (Or.inl ⟨by rfl, ?_⟩) ?_ ?_; rotate_left
      ·intro w'; go_simp; with_reducible rfl
      rotate_left
      ·simp only [Act.put, List.setIfInBounds_toArray, List.set_cons_zero, List.set_cons_succ, i64_w, i32_w]; rfl
      refine pure_ (i := 2) (N := some 40) (v := ?_) (a' := ?_) #[true, true, true, false, false, false, false, false, false, false] rfl rfl (by kernel_rfl) (fun _ _ _ h => h) (Or.inl ⟨by rfl, ?_⟩) ?_ ?_; rotate_left
      ·intro w'; go_simp; with_reducible rfl
      rotate_left
      ·simp only [Act.put, List.setIfInBounds_toArray, List.set_cons_zero, List.set_cons_succ, i64_w, i32_w]; rfl
      refine pure_ (i := 3) (N := some 41) (v := ?_) (a' := ?_) #[true, true, true, true, false, false, false, false, false, false] rfl rfl (by kernel_rfl) (fun _ _ _ h => h) (Or.inl ⟨by rfl, ?_⟩) ?_ ?_; rotate_left
      ·intro w'; go_simp; with_reducible rfl
      rotate_left
      ·simp only [Act.put, List.setIfInBounds_toArray, List.set_cons_zero, List.set_cons_succ, i64_w, i32_w]; rfl
      refine pure_ (i := 4) (N := some 42) (v := ?_) (a' := ?_) #[true, true, true, true, true, false, false, false, false, false] rfl rfl (by kernel_rfl) (fun _ _ _ h => h) (Or.inl ⟨by rfl, ?_⟩) ?_ ?_; rotate_left
      ·intro w'; go_simp; with_reducible rfl
      rotate_left
      ·simp only [Act.put, List.setIfInBounds_toArray, List.set_cons_zero, List.set_cons_succ, i64_w, i32_w]; rfl
      refine pure_ (i := 5) (N := some 43) (v := ?_) (a' := ?_) #[true, true, true, true, true, true, false, false, false, false] rfl rfl (by kernel_rfl) (fun _ _ _ h => h) (Or.inl ⟨by rfl, ?_⟩) ?_ ?_; rotate_left
      ·intro w'; go_simp; with_reducible rfl
      rotate_left
      ·simp only [Act.put, List.setIfInBounds_toArray, List.set_cons_zero, List.set_cons_succ, i64_w, i32_w]; rfl
      refine pure_ (i := 6) (N := some 44) (v := ?_) (a' := ?_) #[true, true, true, true, true, true, true, false, false, false] rfl rfl (by kernel_rfl) (fun _ _ _ h => h) (Or.inl ⟨by rfl, ?_⟩) ?_ ?_; rotate_left
      ·intro w'; go_simp; with_reducible rfl
      rotate_left
      ·simp only [Act.put, List.setIfInBounds_toArray, List.set_cons_zero, List.set_cons_succ, i64_w, i32_w]; rfl
      refine last_ (i := 7) (N := some 45) #[true, true, true, true, true, true, true, true, false, false] rfl rfl (by kernel_rfl) (by decide) (fun K hK => ?_); refine step_copy_splice rfl (.tmp 41) (.tmp 44) 26 26 rfl 3 Tryd.underlying26 (by rw [HI.out]; exact congrArg some HZ.out) (some ⟨go, n, none⟩) (some ⟨go, 0, none⟩) (m - n) (co - n) n co rfl rfl go n cur 3 (by exact HH.out) (List.replicate q (.int .i64 x)) (by rw [HL.out]; exact HQ.out) (fun _ => ⟨rfl, _, rfl, HC.out⟩) HF.out (by intro v hv; rw [List.eq_of_mem_replicate hv]; rfl) w.heap.size w (by first | exact HB.out | exact hbS HB.out) HGB.out ?_; intro w4 hg4 hb4; refine hK.out _ _ ?_; clear hK K; rw [HL.out]; refine norm_ (a' := ?_) ?_ ?_; rotate_left
      ·show Act.put _ (some 45) _ = _; simp only [Act.put, List.setIfInBounds_toArray, List.set_cons_zero, List.set_cons_succ, i64_w, i32_w]; rfl
      have HH2 := am hg4.out; have HB2 := am hb4; clear hg4 hb4 HH HB; refine pure_ (i := 8) (N := some 46) (v := ?_) (a' := ?_) #[true, true, true, true, true, true, true, true, true, false] rfl rfl (by kernel_rfl) (fun _ _ _ h => h) (Or.inl ⟨by rfl, ?_⟩) ?_ ?_; rotate_left
      ·intro w'; go_simp; with_reducible rfl
      rotate_left
      ·simp only [Act.put, List.setIfInBounds_toArray, List.set_cons_zero, List.set_cons_succ, i64_w, i32_w]; rfl
      refine pure_ (i := 9) (N := some 8) (v := ?_) (a' := ?_) #[true, true, true, true, true, true, true, true, true, true] rfl rfl (by kernel_rfl) (fun _ _ _ h => h) (Or.inl ⟨by rfl, ?_⟩) ?_ ?_; rotate_left
      ·intro w'; go_simp; with_reducible rfl
      rotate_left
      ·simp only [Act.put, List.setIfInBounds_toArray, List.set_cons_zero, List.set_cons_succ, i64_w, i32_w]; rfl
      refine done_ (by kernel_rfl) ?_
      have hwq : wrap64 ((n : Int) + (q : Int)) = ((n + q : Nat) : Int) := by
        have := HM.out; have := HN.out; unfold wrap64; omega
      (try go_wp2); go_roundg k1
      case measure => have := HK.out; have := HM.out; omega
      case rel =>
        refine ⟨n + q, splice cur n (List.replicate q (.int .i64 x)), ?_, ⟨by have := HM.out; have := HN.out; omega⟩, ⟨by have := HK.out; have := HM.out; omega⟩, HH2, ⟨?_⟩, ⟨?_⟩, HB2⟩
        ·(first | rfl | exact congrArg (Value.int .i64) hwq | (simp; done))
        ·rw [length_splice _ _ _ HF.out]; exact HS.out
        · unfold splice
          rw [HT.out, ← List.append_assoc]; (have e1 : (List.replicate n (Value.int .i64 x) ++ List.replicate q (.int .i64 x)) = List.replicate (n + q) (.int .i64 x) := by rw [List.replicate_append_replicate]); rw [e1, List.take_append_of_le_length (by simp), List.take_of_length_le (by simp)]
    · have hc0 : decide ((n : Int) < (m : Int)) = false := decide_eq_false hc
      (obtain rfl : n = m := by have := HN.out; omega); go_wp2; go_ret; refine ⟨_, rfl, Kd.R_of_own ?_ (fun _ _ => trivial), hbS HB.out⟩; show wr.ownsRow w.heap.size 3 1 (.slice (some ⟨go, 0, none⟩) n co) (List.replicate n x).length (encs (Value.int .i64) (List.replicate n x)); refine ⟨by simp [encs], .inr ⟨go, co, cur.toArray, by rw [List.length_replicate], gb, HH.out, by rw [List.length_replicate]; exact hcm0.1, hcm0.2, by simpa using HS.out, ?_⟩⟩; rw [List.length_replicate, Nat.mul_one]
      simpa [encs] using HT.out
section
open Go.Shelf
attribute [local go_sem] Oper.semAt_some
def Beside (g B : Nat) (W W' : World) : Prop := ∀ k, k < B → k ≠ g → W'.heap[k]? = W.heap[k]?
theorem Beside.refl (g B : Nat) (W : World) : Beside g B W W := fun _ _ _ => rfl
theorem Beside.trans {g B : Nat} {U V W : World} (h : Beside g B U V) (k : Beside g B V W) : Beside g B U W := fun i hi hn => (k i hi hn).trans (h i hi hn)
theorem Beside.cell {g B : Nat} {W W' : World} (h : Beside g B W W') {p : Addr} (hp : p.block < B) (hn : p.block ≠ g) : W'.cell? p = W.cell? p := World.cell?_of_block (h _ hp hn)
theorem beside_b {g : Nat} {w : World} (W : World) (l : Nat) (o o' : Obj) (hl : w.heap.size ≤ l) (h : W.heap[l]? = some o) (_ : o.isCells = false) (_ : o.isWalk = false) : Beside g w.heap.size W (W.putObj l o') :=
  fun k hk _ => World.putObj_heap_other (by omega)
def bwAt {m : Nat} (zs : List (Fin m)) (d : Fin m) (j : Nat) : Nat × Fin m := (zs.length - 1 - j, zs.getD (zs.length - 1 - j) d)
def bw {m : Nat} (zs : List (Fin m)) (d : Fin m) (k : Nat) : List (Nat × Fin m) := (List.range k).map (bwAt zs d)
theorem bw_succ {m : Nat} (zs : List (Fin m)) (d : Fin m) (k : Nat) : bw zs d (k + 1) = bw zs d k ++ [bwAt zs d k] := by simp [bw, List.range_succ]
theorem bw_length {m : Nat} (zs : List (Fin m)) (d : Fin m) (k : Nat) : (bw zs d k).length = k := by simp [bw]
theorem bw_all {m : Nat} (zs : List (Fin m)) (d : Fin m) : (bw zs d zs.length).map Prod.snd = zs.reverse := by
  apply List.ext_getElem
  · simp [bw]
  · intro i h1 h2
    have h3 : i < zs.length := by simpa [bw] using h1
    simp only [bw, List.map_map, List.getElem_map, List.getElem_range, Function.comp, bwAt, List.getElem_reverse]
    rw [List.getD_eq_getElem?_getD, List.getElem?_eq_getElem (by omega)]
    rfl
theorem backward1_in {m : Nat} (n : Nat) (hn : 1 ≤ n) (l Bs b off cap g B : Nat) (zs : List (Fin m)) (d : Fin m) (hreach : zs.length ≤ 100000) (hb : b < B) (hbg : b ≠ g) (hs : Bs < B) (hsg : Bs ≠ g) (J Jx : List (Nat × Fin m) → World → Prop)
    (hY : ∀ pre x W, J pre W → pre.length < zs.length → YieldAt Fence.wide (n - 1) Tryd.prog l #[.int .i64 (x.1 : Int), .int .i64 ((x.2.val : Nat) : Int)] W fun e W' =>
      (e = .returned (.bool true) ∧ J (pre ++ [x]) W' ∧ Beside g B W W') ∨ (e = .returned (.bool false) ∧ Jx (pre ++ [x]) W'))
    (W : World) (hBs : W.cell? ⟨Bs, 0, none⟩ = some (.slice (some ⟨b, off, none⟩) zs.length cap)) (hc : ∀ j, j < zs.length → W.cell? ⟨b, off + j, none⟩ = some (.int .i64 (((zs.getD j d).val : Nat) : Int))) (h0 : J [] W) :
    CallsIn Fence.wide n Tryd.prog 110 #[.func (.yield l) #[] #[], .pointer (some ⟨Bs, 0, none⟩)] W fun e W' => (∃ v, e = .returned v) ∧
      ((∃ ys, ys = bw zs d zs.length ∧ J ys W') ∨ (∃ pre, (∃ k, k ≤ zs.length ∧ pre = bw zs d k) ∧ Jx pre W')) := by
  refine callsIn_of_wp Tryd.func110 rfl trivial ?_ rfl
  simp only [Tryd.ntmps110, List.size_toArray, List.length_cons, List.length_nil, Nat.reduceAdd, Nat.reduceSub, Array.replicate_succ, Array.replicate_zero, List.push_toArray, List.append_toArray, List.nil_append, List.cons_append]
  have hw0 : IntKind.i64.wrap ((zs.length : Int) - 1) = (zs.length : Int) - 1 := by
    rw [i64_w]; unfold wrap64; omega
  gi_wp2
  gi_loopw [3] (fun i wr => ∃ k : Nat, k ≤ zs.length ∧ i = .int .i64 ((k : Int) - 1) ∧ J (bw zs d (zs.length - k)) wr ∧ Beside g B W wr)
    (fun i _ => (intOf i + 1).toNat)
  case atStart => exact ⟨zs.length, Nat.le_refl _, by simp [hw0], by simpa [bw] using h0, Beside.refl _ _ _⟩
  case round =>
    obtain ⟨k, hk, rfl, hJs, hnx⟩ := hrel
    have hBs1 : wr.cell? ⟨Bs, 0, none⟩ = some (.slice (some ⟨b, off, none⟩) zs.length cap) := (hnx.cell (p := ⟨Bs, 0, none⟩) hs hsg).trans hBs
    by_cases hlt : 0 < k
    · obtain ⟨k1, rfl⟩ : ∃ k1, k = k1 + 1 := ⟨k - 1, by omega⟩
      have hk1 : ((k1 + 1 : Nat) : Int) - 1 = (k1 : Int) := by omega
      rw [hk1]
      have hx : bwAt zs d (zs.length - (k1 + 1)) = (k1, zs.getD k1 d) := by
        unfold bwAt
        have : zs.length - 1 - (zs.length - (k1 + 1)) = k1 := by omega
        rw [this]
      have hcx : wr.cell? ⟨b, off + k1, none⟩ = some (.int .i64 (((zs.getD k1 d).val : Nat) : Int)) := (hnx.cell (p := ⟨b, off + k1, none⟩) hb hbg).trans (hc k1 (by omega))
      obtain ⟨fn, tmps, assign, body, hy, hR⟩ := hY _ (k1, zs.getD k1 d) wr hJs (by rw [bw_length]; omega)
      dsimp only at hy
      generalize hz : (((zs.getD k1 d).val : Nat) : Int) = z at hy hcx
      have hlt1 : k1 < zs.length := by omega
      have hw1 : IntKind.i64.wrap ((k1 : Int) - 1) = (k1 : Int) - 1 := by
        rw [i64_w]; unfold wrap64; omega
      gi_wp2
      refine hR.mono ?_
      rintro e W3 (⟨rfl, hJ3, hk3⟩ | ⟨rfl, hJx3⟩)
      · gi_wp2
        go_roundw
        case rel => exact ⟨k1, by omega, by simp [hw1], by rw [show zs.length - k1 = (zs.length - (k1 + 1)) + 1 by omega, bw_succ, hx]; exact hJ3, hnx.trans hk3⟩
        case measure => simp [intOf]
      · gi_wp2
        refine bodyPost_ret (results_none rfl _ _ _) rfl ?_
        exact ⟨⟨_, rfl⟩, .inr ⟨_, ⟨zs.length - k1, by omega, by rw [show zs.length - k1 = (zs.length - (k1 + 1)) + 1 by omega, bw_succ, hx]⟩, hJx3⟩⟩
    · obtain rfl : k = 0 := by omega
      have hk1 : ((0 : Nat) : Int) - 1 = -1 := rfl
      rw [hk1]
      gi_wp2
      go_end0
      exact ⟨⟨_, rfl⟩, .inl ⟨_, rfl, hJs⟩⟩
theorem backward_in (n : Nat) (a : Option Addr) (len cap : Nat) (w : World) :
    CallsIn Fence.wide n Tryd.prog 93 #[.slice a len cap] w fun e w' => e = .returned (.func (.func 110) #[] #[.pointer (some ⟨w.heap.size, 0, none⟩)]) ∧ w' = w.alloc (.cells #[.slice a len cap] 26) := by
  refine callsIn_of_wp Tryd.func93 rfl trivial ?_ rfl
  simp only [Tryd.ntmps93, List.size_toArray, List.length_cons, List.length_nil, Nat.reduceAdd, Nat.reduceSub, Array.replicate_succ, Array.replicate_zero, List.push_toArray, List.append_toArray, List.nil_append, List.cons_append]
  gi_wp2
  go_ret
  exact ⟨rfl, rfl⟩
theorem backward_stops {m : Nat} (n : Nat) (hn : 1 ≤ n) (Bs b off cap g : Nat) (zs : List (Fin m)) (d : Fin m) (hreach : zs.length ≤ 100000) (w : World) (hb : b < w.heap.size) (hbg : b ≠ g) (hs : Bs < w.heap.size) (hsg : Bs ≠ g)
    (hBs : w.cell? ⟨Bs, 0, none⟩ = some (.slice (some ⟨b, off, none⟩) zs.length cap)) (hc : ∀ j, j < zs.length → w.cell? ⟨b, off + j, none⟩ = some (.int .i64 (((zs.getD j d).val : Nat) : Int))) :
    SeqStopsK Fence.wide n Tryd.prog 110 #[.pointer (some ⟨Bs, 0, none⟩)] (fun x : Nat × Fin m => #[Value.int .i64 (x.1 : Int), Value.int .i64 ((x.2.val : Nat) : Int)]) (Beside g w.heap.size) (fun ys => ys = bw zs d zs.length)
      (fun pre => ∃ k, k ≤ zs.length ∧ pre = bw zs d k) zs.length w := fun l J Jx W hW _ _ hY h0 => by
  refine backward1_in n hn l Bs b off cap g w.heap.size zs d hreach hb hbg hs hsg J Jx hY W ((hW.cell (p := ⟨Bs, 0, none⟩) hs).trans hBs) (fun j hj => (hW.cell (p := ⟨b, off + j, none⟩) hb).trans (hc j hj)) h0
theorem lf_box {W : World} {B : Nat} {v : Value} {t : TypeId} (h : W.heap[B]? = some (.cells #[v] t (0, 0))) : W.cell? ⟨B, 0, none⟩ = some v ∧ W.frozen? ⟨B, 0, none⟩ = false := by
  constructor <;> simp [World.cell?, World.frozen?, h]
theorem lf_new (W : World) (v : Value) (t : TypeId) : (W.alloc (.cells #[v] t)).cell? ⟨W.heap.size, 0, none⟩ = some v ∧ (W.alloc (.cells #[v] t)).frozen? ⟨W.heap.size, 0, none⟩ = false :=
  lf_box (World.alloc_heap_new W _)
theorem lf_alloc {W : World} {a : Addr} {v : Value} (o : Obj) (h : W.cell? a = some v) : (W.alloc o).cell? a = some v := cell_kept h (World.grownBy_alloc W o none) (fun r e => by cases e)
def lfPost (R : World → Prop) : Exit → Act → World → Prop
 | .normal, _, w' => R w'
 | _, _, _ => False
theorem lfPost_to {α : Type} {B : Nat} {Kp : World → World → Prop} {I : List α → World → Prop} {Ix : Code → List α → World → Prop} {xs : List α} {W : World} {R : World → Prop} (hR : ∀ W', R W' → KeepsFrom B W W' ∧ Kp W W' ∧ I xs W') : ∀ e a w', lfPost R e a w' → ownPostG B Kp I Ix xs W e a w'
 | .normal, _, w', h => hR w' h
 | .ret, _, _, h => False.elim h
 | .exit _, _, _, h => False.elim h
 | .goto _, _, _, h => False.elim h
 | .panic _, _, _, h => False.elim h
 | .outgrown, _, _, h => False.elim h
theorem lf_w64 {x : Int} (h : -9223372036854775808 ≤ x) (h' : x ≤ 9223372036854775807) : wrap64 x = x := by
  unfold wrap64
  omega
theorem lf_facts (n fr : Nat) (a1 : Int) (hn : n ≤ 100) (h1 : -1000 ≤ a1) (h2 : a1 ≤ 1000) (hz : fr < n + 2) : wrap64 ((fr : Int) + 1) = (fr : Int) + 1 ∧ wrap64 ((fr : Int) + a1) = (fr : Int) + a1 ∧ wrap64 ((n : Int) + 1) = (n : Int) + 1 ∧
    ∃ hi c, (if (n : Int) + 1 < (fr : Int) + a1 then (n : Int) + 1 else (fr : Int) + a1) = hi ∧ hi ≤ (n : Int) + 1 ∧ c = (hi - (fr : Int)).toNat ∧ c = (mn ((fr : Int) + a1) ((n : Int) + 1) - (fr : Int)).toNat := by
  refine ⟨lf_w64 (by omega) (by omega), lf_w64 (by omega) (by omega), lf_w64 (by omega) (by omega), _, _, rfl, ?_, rfl, rfl⟩
  split <;> omega
theorem lf_next {tt fr dd c k1 : Nat} (h : tt = fr + 1 + dd ∧ dd ≤ c ∧ c - dd ≤ k1 + 1) (hd : dd < c) : tt + 1 = fr + 1 + (dd + 1) ∧ dd + 1 ≤ c ∧ c - (dd + 1) ≤ k1 := by omega
theorem beside_set {g B : Nat} {W W' : World} (h : W.grownBy W' (some g)) (hs : W'.heap.size = W.heap.size) : Beside g B W W' := fun k _ hn => by
  by_cases hk : k < W.heap.size
  · exact h.block k hk (fun e => hn (by cases e; rfl))
  · rw [Array.getElem?_eq_none (by omega), Array.getElem?_eq_none (by omega)]
theorem Nout.normal {Q : Exit → Act → World → Prop} {a : Act} {w : World} (h : Q .normal a w) : Nout Q .normal a w := h
theorem lf_end {tt fr dd c k : Nat} {hi : Int} (h : tt = fr + 1 + dd ∧ dd ≤ c ∧ c - dd ≤ k) (hd : ¬ dd < c) (hc : c = (hi - (fr : Int)).toNat) : dd = c ∧ ¬ (tt : Int) ≤ hi := by omega
def lfStep (fr tt : Nat) (o : List Int) : List Int := if 0 ≤ rd o (tt : Int) ∧ (rd o (fr : Int) < 0 ∨ wrap64 (rd o (tt : Int) + 1) < rd o (fr : Int)) then o.set fr (wrap64 (rd o (tt : Int) + 1)) else o
def lfIn (fr : Nat) (o : List Int) : Nat → List Int
 | 0 => o
 | d + 1 => lfStep fr (fr + 1 + d) (lfIn fr o d)
def lfOut (n : Nat) (leap : Int) (fr : Nat) (o : List Int) : List Int := lfIn fr o ((mn ((fr : Int) + leap) ((n : Int) + 1)) - (fr : Int)).toNat
def lfStart (n : Nat) : List Int := (List.replicate (n + 2) (-1)).set (n + 1) 0
def impl_leapsLeft.f (k : Nat) (a0 : ByteArray) (a1 : Int) : Option (List Int) := (impl_stand.f k a0).bind fun t =>
  if a0.size ≤ 100 ∧ -1000 ≤ a1 ∧ a1 ≤ 1000 ∧ t.length ≤ 1000 ∧ 0 < t.length ∧ (∀ x ∈ t, 0 ≤ x ∧ x ≤ (a0.size : Int) + 1) then some ((t.reverse.map Int.toNat).foldl (fun o fr => lfOut a0.size a1 fr o) (lfStart a0.size)) else none
theorem lf_fin (n : Nat) : ∀ t : List Int, (∀ x ∈ t, 0 ≤ x ∧ x ≤ (n : Int) + 1) → ∃ zs : List (Fin (n + 2)), zs.map (fun x => ((x.val : Nat) : Int)) = t
 | [], _ => ⟨[], rfl⟩
 | x :: t, h => by
  obtain ⟨zs, hz⟩ := lf_fin n t (fun y hy => h y (List.mem_cons_of_mem _ hy))
  obtain ⟨h0, h1⟩ := h x (List.mem_cons_self ..)
  exact ⟨⟨x.toNat, by omega⟩ :: zs, by simp [hz]; omega⟩
theorem impl_leapsLeft.calls (k : Nat) (a0 : ByteArray) (a1 : Int) (r : List Int) (w : World) (h : impl_leapsLeft.f k a0 a1 = some r) :
  Calls Tryd.prog 69 #[.string a0, .int .i64 a1] w fun e w' => ∃ v0_ : Value, e = .returned (v0_) ∧ Kd.R (Kd.int .i64) 3 w' w.heap.size (fun _ => True) v0_ r ∧ Below w.heap.size w w' := by
  unfold impl_leapsLeft.f at h
  cases ht : impl_stand.f k a0 with
  | none => rw [ht] at h; cases h
  | some t =>
  rw [ht, Option.bind_some] at h; by_cases hcond : a0.size ≤ 100 ∧ -1000 ≤ a1 ∧ a1 ≤ 1000 ∧ t.length ≤ 1000 ∧ 0 < t.length ∧ (∀ x ∈ t, 0 ≤ x ∧ x ≤ (a0.size : Int) + 1); rotate_left
  ·rw [if_neg hcond] at h; cases h
  rw [if_pos hcond] at h; obtain ⟨hn, hl1, hl2, htl, htp, htr⟩ := hcond; obtain rfl := Option.some.inj h; clear h; (have hw1 : wrap64 ((a0.size : Int) + 2) = ((a0.size + 2 : Nat) : Int) := by unfold wrap64; omega); (have hw2 : wrap64 ((a0.size : Int) + 1) = ((a0.size + 1 : Nat) : Int) := by unfold wrap64; omega); have HB := am (Below.refl w.heap.size w); refine (callsIn_wide (n := 5)).1 ?_; refine callsIn_of_wp_marks Tryd.func69 rfl trivial ?_ rfl; simp only [Tryd.ntmps69, List.size_toArray, List.length_cons, List.length_nil, Nat.reduceAdd, Nat.reduceSub, Array.replicate_succ, Array.replicate_zero, List.push_toArray, List.append_toArray, List.nil_append, List.cons_append]; refine wpIn_wide.2 ?_; have hlen : (List.replicate (a0.size + 2) (-1 : Int)).length = a0.size + 2 := List.length_replicate
  have hrep : ∀ (A0 : Option Addr) (c0 : Nat) (w1 : World), Kd.C (Kd.int .i64) w1 A0 1 [-1] → 1 ≤ c0 → Calls Tryd.prog 92 #[.slice A0 1 c0, .int .i64 ((a0.size : Int) + 2)] w1 fun e w' => ∃ v0_ : Value, e = .returned (v0_) ∧ Kd.R (Kd.int .i64) 3 w' w1.heap.size (fun _ => True) v0_ (List.replicate (a0.size + 2) (-1)) ∧ Below w1.heap.size w1 w' :=
    fun A0 c0 w1 hC hc => slices_Repeat.calls A0 c0 (-1) (a0.size + 2) w1 hC hc (by omega) (by omega)
  go_wp2_with fail; obtain ⟨W1, hW1⟩ : ∃ W1, W1 = (w.alloc (.cells #[.string a0] 9)).alloc (.cells #[.int .i64 a1] 3) := ⟨_, rfl⟩; (have hs1 : W1.heap.size = w.heap.size + 2 := by rw [hW1]; simp); (have hB1 : Below w.heap.size w W1 := by rw [hW1]; exact ((Below.refl _ w).alloc (Nat.le_refl _) _).alloc (by simp) _); (have hr1 : W1.cell? ⟨w.heap.size, 0, none⟩ = some (.string a0) := by rw [hW1]; exact lf_alloc _ (lf_new w (.string a0) 9).1)
  have hl1 : W1.cell? ⟨w.heap.size + 1, 0, none⟩ = some (.int .i64 a1) := by
    rw [hW1]; have := (lf_new (w.alloc (.cells #[.string a0] 9)) (.int .i64 a1) 3).1
    rwa [World.size_alloc] at this
  rw [← hW1]; clear hW1; obtain ⟨W2, hW2⟩ : ∃ W2, W2 = W1.alloc (.cells #[.int .i64 (-1)] 3) := ⟨_, rfl⟩; (have hs2 : W2.heap.size = w.heap.size + 3 := by rw [hW2]; simp [hs1]); (have hB2 : Below w.heap.size w W2 := by rw [hW2]; exact hB1.alloc (by omega) _); (have hr2 : W2.cell? ⟨w.heap.size, 0, none⟩ = some (.string a0) := by rw [hW2]; exact lf_alloc _ hr1); (have hl2' : W2.cell? ⟨w.heap.size + 1, 0, none⟩ = some (.int .i64 a1) := by rw [hW2]; exact lf_alloc _ hl1)
  have hm2 : W2.cell? ⟨w.heap.size + 1 + 1, 0, none⟩ = some (.int .i64 (-1)) := by
    rw [hW2]; have := (lf_new W1 (.int .i64 (-1)) 3).1
    rwa [hs1] at this
  rw [← hW2]; clear hW2 hr1 hl1 hB1; refine (hrep _ _ _ (Kd.C_of_reads (d := 0) ⟨rfl, by decide, fun _ => ⟨_, rfl, fun j hj => ?_⟩⟩) (Nat.le_refl _)).mono ?_
  · obtain rfl : j = 0 := by omega
    exact hm2
  rintro e W3 ⟨v, rfl, hR, hb⟩; obtain ⟨go, co, rfl, gb, gl, cl, hG⟩ := Kd.R_form hR (by omega); rw [hlen] at *; rw [hs2] at gb; have hB3 : Below w.heap.size w W3 := hB2.trans (hb.mono (by omega)); have hr3 : W3.cell? ⟨w.heap.size, 0, none⟩ = some (.string a0) := (hb.cell (p := ⟨w.heap.size, 0, none⟩) (by show w.heap.size < _; omega)).trans hr2; have hl3 : W3.cell? ⟨w.heap.size + 1, 0, none⟩ = some (.int .i64 a1) := (hb.cell (p := ⟨w.heap.size + 1, 0, none⟩) (by show w.heap.size + 1 < _; omega)).trans hl2'; clear hr2 hl2' hm2 hB2 hrep hb cl hG; have hRR := am hR; clear hR; have hR4 := Kd.R_alloc hRR.out (.cells #[.slice (some ⟨go, 0, none⟩) (a0.size + 2) co] 26); obtain ⟨hx4, hf4⟩ := Kd.R_celln 0 hR4 ((a0.size : Int) + 1) (by omega) (by omega); have hz3 := hB3.size; (have ht1 : ((a0.size : Int) + 1).toNat = a0.size + 1 := by omega); rw [ht1] at hx4 hf4; have hr4 := lf_alloc (.cells #[.slice (some ⟨go, 0, none⟩) (a0.size + 2) co] 26) hr3; have ho4 := (lf_new W3 (.slice (some ⟨go, 0, none⟩) (a0.size + 2) co) 26).1; have hP4 := Kd.R_putg hRR.out ((a0.size : Int) + 1) 0; rw [ht1] at hP4; obtain ⟨V, hV⟩ : ∃ V, V = W3.setCell ⟨go, a0.size + 1, none⟩ (.int .i64 0) := ⟨_, rfl⟩; (have hVs : V.heap.size = W3.heap.size := by rw [hV]; simp)
  have hVc : ∀ p v, W3.cell? p = some v → p.block ≠ go → V.cell? p = some v := fun p v h hp => by
    rw [hV]; exact (World.cell?_of_block (hP4.2.block _ (World.block_lt_of_cell? _ _ h) (fun e => hp (by cases e; rfl)))).trans h
  have hr5 := lf_alloc (.cells #[.slice (some ⟨go, 0, none⟩) (a0.size + 2) co] 26) (hVc _ _ hr3 (by show w.heap.size ≠ go; omega)); have hl5 := lf_alloc (.cells #[.slice (some ⟨go, 0, none⟩) (a0.size + 2) co] 26) (hVc _ _ hl3 (by show w.heap.size + 1 ≠ go; omega)); have ho5 := (lf_new V (.slice (some ⟨go, 0, none⟩) (a0.size + 2) co) 26).1; rw [hVs] at ho5; (have hR5 : Kd.R (Kd.int .i64) 3 V W2.heap.size (fun _ => True) (.slice (some ⟨go, 0, none⟩) (a0.size + 2) co) (lfStart a0.size) := by rw [hV]; exact hP4.1); have HR5 := am (Kd.R_alloc hR5 (.cells #[.slice (some ⟨go, 0, none⟩) (a0.size + 2) co] 26)); (have hBV : Below w.heap.size w V := by rw [hV]; exact hB3.setCell (p := ⟨go, a0.size + 1, none⟩) (by show w.heap.size ≤ go; omega) _); have HB5 := am (hBV.alloc hBV.size (.cells #[.slice (some ⟨go, 0, none⟩) (a0.size + 2) co] 26)); (have hS5 : (V.alloc (.cells #[.slice (some ⟨go, 0, none⟩) (a0.size + 2) co] 26)).heap.size = W3.heap.size + 1 := by simp [hVs]); rw [hV] at hr5 hl5 ho5 HR5 HB5 hS5; clear hV hVs hVc hR5 hBV hP4 hR4; go_wp2_with fail; generalize hW5 : (W3.setCell ⟨go, a0.size + 1, none⟩ (.int .i64 0)).alloc (.cells #[.slice (some ⟨go, 0, none⟩) (a0.size + 2) co] 26) = W5 at hr5 hl5 ho5 HR5 HB5 hS5 ⊢; clear hW5 hr4 ho4 hx4 hf4 hr3 hl3 hB3 HB hRR; refine (impl_stand.calls k a0 t _ ht).mono ?_; rintro e W6 ⟨v6, rfl, hT, hb6⟩; obtain ⟨gs, cs, rfl, gb6, gl6, cl6, hG6⟩ := Kd.R_form hT htp; have hr6 := (hb6.cell (p := ⟨w.heap.size, 0, none⟩) (by show w.heap.size < _; omega)).trans hr5; have hl6 := (hb6.cell (p := ⟨w.heap.size + 1, 0, none⟩) (by show w.heap.size + 1 < _; omega)).trans hl5; have ho6 := (hb6.cell (p := ⟨W3.heap.size, 0, none⟩) (by show W3.heap.size < _; omega)).trans ho5; have HR6 := am (Kd.R_below HR5.out hb6); have HB6 := am (HB5.out.trans (hb6.mono HB5.out.size)); have HT6 := am hT; have hz6 := hb6.size; clear hr5 hl5 ho5 HR5 HB5 hT hb6 cl6 hG6; go_wp2_with fail; refine (callsIn_wide.1 (backward_in 5 _ _ _ _)).mono ?_; rintro e W7 ⟨rfl, hW7⟩; (have hs7 : W7.heap.size = W6.heap.size + 1 := by rw [hW7]; simp); (have hr7 : W7.cell? ⟨w.heap.size, 0, none⟩ = some (.string a0) := by rw [hW7]; exact lf_alloc _ hr6); (have hl7 : W7.cell? ⟨w.heap.size + 1, 0, none⟩ = some (.int .i64 a1) := by rw [hW7]; exact lf_alloc _ hl6); (have ho7 : W7.cell? ⟨W3.heap.size, 0, none⟩ = some (.slice (some ⟨go, 0, none⟩) (a0.size + 2) co) := by rw [hW7]; exact lf_alloc _ ho6); (have hq7 : W7.cell? ⟨W6.heap.size, 0, none⟩ = some (.slice (some ⟨gs, 0, none⟩) t.length cs) := by rw [hW7]; exact (lf_new W6 _ 26).1)
  have HR7 : Aside0 (Kd.R (Kd.int .i64) 3 W7 W2.heap.size (fun k => k = go) (.slice (some ⟨go, 0, none⟩) (a0.size + 2) co) (lfStart a0.size)) := by
    have h1 := Kd.R_alloc HR6.out (.cells #[.slice (some ⟨gs, 0, none⟩) t.length cs] 26); rw [← hW7] at h1; have h2 := Kd.own_of_R h1; exact ⟨Kd.R_of_own h2 (fun k hk => by cases hk; rfl)⟩
  have HT7 : Aside0 (Kd.R (Kd.int .i64) 3 W7 W5.heap.size (fun _ => True) (.slice (some ⟨gs, 0, none⟩) t.length cs) t) := by
    rw [hW7]; exact ⟨Kd.R_alloc HT6.out _⟩
  (have HB7 : Aside0 (Below w.heap.size w W7) := by rw [hW7]; exact ⟨HB6.out.alloc HB6.out.size _⟩); clear hW7 hr6 hl6 ho6 HR6 HT6 HB6; obtain ⟨zs, hzs⟩ := lf_fin a0.size t htr; (have hzl : t.length = zs.length := by rw [← hzs]; simp); rw [hzl] at hq7
  have hcz : ∀ j, j < zs.length → W7.cell? ⟨gs, 0 + j, none⟩ = some (.int .i64 (((zs.getD j ⟨0, Nat.zero_lt_succ _⟩).val : Nat) : Int)) := by
    intro j hj; have h1 := (Kd.R_celln 0 HT7.out (j : Int) (by omega) (by omega)).1; rw [Int.toNat_natCast] at h1; rw [Nat.zero_add, h1]; congr 2; rw [← hzs]; show List.getD _ _ _ = _; rw [Int.toNat_natCast, List.getD_eq_getElem?_getD, List.getD_eq_getElem?_getD, List.getElem?_map, List.getElem?_eq_getElem hj]; rfl
  have hst := backward_stops 4 (by omega) W6.heap.size gs 0 cs go zs ⟨0, Nat.zero_lt_succ _⟩ (by omega) W7 (by omega) (by omega) (by omega) (by omega) hq7 hcz; go_wp2_with fail; refine (wpIn_wide (n := 5)).1 ?_
  refine wpIn_rangeFunc_ownG rfl (by omega) (gf := 110) (lb := #[.pointer (some ⟨W6.heap.size, 0, none⟩)]) rfl trivial (enters_of Tryd.func110 (by kernel_rfl) rfl) hst (fun h k => h.trans k) beside_b (Below.refl _ _) (fun _ => rfl)
    (fun pre W => ((W.cell? ⟨w.heap.size, 0, none⟩ = some (.string a0) ∧ W.cell? ⟨w.heap.size + 1, 0, none⟩ = some (.int .i64 a1) ∧ W.cell? ⟨W3.heap.size, 0, none⟩ = some (.slice (some ⟨go, 0, none⟩) (a0.size + 2) co)) ∧ Kd.R (Kd.int .i64) 3 W W2.heap.size (fun k => k = go) (.slice (some ⟨go, 0, none⟩) (a0.size + 2) co) ((pre.map Prod.snd).foldl (fun o x => lfOut a0.size a1 x.val o) (lfStart a0.size))) ∧ Below w.heap.size w W)
    (fun _ _ _ => False)
    (OwnFrom.and (fun pre A B row hs hg hr => ⟨⟨cell_kept hs.1.1 hg (fun r e => (hr r e).2), cell_kept hs.1.2.1 hg (fun r e => (hr r e).2), cell_kept hs.1.2.2 hg (fun r e => (hr r e).2)⟩, Kd.R_step hs.2 (fun k hk hlt => hg.block k hlt (fun e => by have h1 : k = go := hk; have := (hr _ e.symm).1; omega))⟩) (ownFrom_below (Nat.le_refl _) (by omega)))
    (fun _ _ _ _ _ hs _ _ => hs)
    ⟨⟨⟨hr7, hl7, ho7⟩, HR7.out⟩, HB7.out⟩
    (fun x => { tmps := #[.string a0, .int .i64 a1, .pointer (some ⟨w.heap.size, 0, none⟩), .pointer (some ⟨w.heap.size + 1, 0, none⟩), .slice none 0 0, .pointer (some ⟨W3.heap.size, 0, none⟩), undef, .int .i64 ((x.2.val : Nat) : Int), undef, .slice (some ⟨w.heap.size + 1 + 1, 0, none⟩) 1 1, .string a0, .int .i64 (a0.size : Int), .int .i64 ((a0.size : Int) + 2), .slice (some ⟨go, 0, none⟩) (a0.size + 2) co, .slice (some ⟨go, 0, none⟩) (a0.size + 2) co, .string a0, .int .i64 (a0.size : Int), .int .i64 ((a0.size : Int) + 1), .pointer (some ⟨go, a0.size + 1, none⟩), .string a0, .slice (some ⟨gs, 0, none⟩) zs.length cs, .func (.func 110) #[] #[.pointer (some ⟨W6.heap.size, 0, none⟩)], .int .i64 (x.1 : Int), .int .i64 ((x.2.val : Nat) : Int), undef, undef, undef, undef, undef, undef, undef, undef, undef, undef, undef, undef, undef, undef, undef, undef, undef, undef, undef, undef, undef, undef, undef, undef, undef, undef, undef, undef, undef, undef, undef, undef, undef, undef, undef, undef, undef, undef, undef, undef, undef, undef, undef, undef, undef, undef], defers := [] }) ?assign ?body ?done ?stop
  case assign =>
    intro l x W K hK; gi_wp2; exact hK
  case stop =>
    rintro D c pre W _ _ hx _; exact hx.elim
  case done =>
    have HD7 : Aside0 ((w.heap.size ≤ W2.heap.size ∧ go < W7.heap.size) ∧ w.heap.size ≤ W7.heap.size) := ⟨⟨by omega, by omega⟩, by omega⟩; clear hst hcz HR7 HT7 HB7 hr7 hl7 ho7 hq7 ht htr; clear hs1 hs2 gb gl hz3 hS5 gb6 gl6 hz6 hs7 hzl htl htp hw1 hw2 ht1 hlen; rintro D ys W hD rfl ⟨⟨⟨hr, hl, ho⟩, hR⟩, hB⟩ hK
    have hlist : ((bw zs ⟨0, Nat.zero_lt_succ _⟩ zs.length).map Prod.snd).foldl (fun o x => lfOut a0.size a1 x.val o) (lfStart a0.size) = (t.reverse.map Int.toNat).foldl (fun o fr => lfOut a0.size a1 fr o) (lfStart a0.size) := by
      rw [bw_all, ← hzs, ← List.map_reverse, List.map_map, List.foldl_map]; rfl
    rw [hlist] at hR; have HRD := am hR; have HBD := am hB; have HDD := am hD; clear hlist hR hB hD hzs; go_wp2_with fail; refine ⟨by simp, .inl ⟨_, _, rfl, run_takeDeferred hK, ?_⟩⟩; refine ⟨_, results_tmp rfl _ _ _, _, rfl, ?_, HBD.out.trans (belowK_b (w := w) (Nat.le_refl _) W D _ _ (Nat.le_trans HD7.out.2 HDD.out) hK rfl rfl)⟩; refine Kd.R_mono (Kd.R_lower (Kd.R_step HRD.out (fun k hk _ => World.putObj_heap_other (fun e => ?_))) HD7.out.1.1) (fun _ _ => trivial); have h1 : k = go := hk; have h2 := HDD.out; have h3 := HD7.out.1.2; omega
  case body =>
    rintro l pre x W ⟨⟨⟨hr, hl, ho⟩, hR⟩, hB⟩ hlt; have HZ : Aside0 ((w.heap.size < W7.heap.size ∧ w.heap.size ≠ go) ∧ (w.heap.size + 1 < W7.heap.size ∧ w.heap.size + 1 ≠ go) ∧ (W3.heap.size < W7.heap.size ∧ W3.heap.size ≠ go) ∧ go < W7.heap.size ∧ w.heap.size ≤ go) := ⟨⟨by omega, by omega⟩, ⟨by omega, by omega⟩, ⟨by omega, by omega⟩, by omega, by omega⟩; clear hlt hst hcz HR7 HT7 HB7 hr7 hl7 ho7 hq7 hzs ht htr; clear hs1 hs2 gb gl hz3 hS5 gb6 gl6 hz6 hs7 hzl htl htp hw1 hw2 ht1 hlen; have hz : x.2.val < a0.size + 2 := x.2.isLt; (have hfold : ((pre ++ [x]).map Prod.snd).foldl (fun o x => lfOut a0.size a1 x.val o) (lfStart a0.size) = lfOut a0.size a1 x.2.val ((pre.map Prod.snd).foldl (fun o x => lfOut a0.size a1 x.val o) (lfStart a0.size)) := by simp); (obtain ⟨R, hRI⟩ : ∃ R : World → Prop, R = fun W' => KeepsFrom W7.heap.size W W' ∧ Beside go W7.heap.size W W' ∧ ((W'.cell? ⟨w.heap.size, 0, none⟩ = some (.string a0) ∧ W'.cell? ⟨w.heap.size + 1, 0, none⟩ = some (.int .i64 a1) ∧ W'.cell? ⟨W3.heap.size, 0, none⟩ = some (.slice (some ⟨go, 0, none⟩) (a0.size + 2) co)) ∧ Kd.R (Kd.int .i64) 3 W' W2.heap.size (fun k => k = go) (.slice (some ⟨go, 0, none⟩) (a0.size + 2) co) (((pre ++ [x]).map Prod.snd).foldl (fun o x => lfOut a0.size a1 x.val o) (lfStart a0.size))) ∧ Below w.heap.size w W' := ⟨_, rfl⟩); refine wpIn_mono (Q := lfPost R) ?_ (lfPost_to (fun W' h => by rw [hRI] at h; exact h)); rw [hfold] at hRI; generalize (pre.map Prod.snd).foldl (fun o x => lfOut a0.size a1 x.val o) (lfStart a0.size) = o at hR hRI; clear hfold; have hol : o.length = a0.size + 2 := (Kd.R_reads' hR).1.symm; obtain ⟨fr, hfr⟩ : ∃ fr, fr = x.2.val := ⟨_, rfl⟩; dsimp only; rw [← hfr] at hz hRI ⊢; obtain ⟨hf1, hf2, hf3, hi, c, hmin, hhi2, hc, hc2⟩ := lf_facts a0.size fr a1 hn hl1 hl2 hz; clear hfr hf1 hf2 hf3; have HRI := am hRI; have HR0 := am hR; have HB0 := am hB; clear hRI hR hB; gi_wp2; gi_loopg [8] c (fun kq v8 w' => ∃ dd tt : Nat, v8 = .int .i64 (tt : Int) ∧ Aside0 (tt = fr + 1 + dd ∧ dd ≤ c ∧ c - dd ≤ kq) ∧ Aside0 (Kd.R (Kd.int .i64) 3 w' W2.heap.size (fun k => k = go) (.slice (some ⟨go, 0, none⟩) (a0.size + 2) co) (lfIn fr o dd)) ∧ Aside0 (KeepsFrom W7.heap.size W w') ∧ Aside0 (Beside go W7.heap.size W w') ∧ Aside0 (Below w.heap.size w w'))
    case atStart => exact ⟨0, fr + 1, by simp, ⟨by omega⟩, HR0, ⟨KeepsFrom.refl _ _⟩, ⟨Beside.refl _ _ _⟩, HB0⟩
    case round =>
      clear HR0 HB0; obtain ⟨dd, tt, rfl, HD, HR, HK, HS, HB⟩ := hrel; have hr1 : wr.cell? ⟨w.heap.size, 0, none⟩ = some (.string a0) := (HS.out.cell (p := ⟨w.heap.size, 0, none⟩) HZ.out.1.1 HZ.out.1.2).trans hr; have hl1 : wr.cell? ⟨w.heap.size + 1, 0, none⟩ = some (.int .i64 a1) := (HS.out.cell (p := ⟨w.heap.size + 1, 0, none⟩) HZ.out.2.1.1 HZ.out.2.1.2).trans hl; have ho1 : wr.cell? ⟨W3.heap.size, 0, none⟩ = some (.slice (some ⟨go, 0, none⟩) (a0.size + 2) co) := (HS.out.cell (p := ⟨W3.heap.size, 0, none⟩) HZ.out.2.2.1.1 HZ.out.2.2.1.2).trans ho; by_cases hdd : dd < c
      · have hd1 := HD.out
        have hcn : decide ((tt : Int) ≤ hi) = true := decide_eq_true (by omega); obtain ⟨k1, rfl⟩ : ∃ k1, gk = k1 + 1 := ⟨gk - 1, by omega⟩; (have htl : tt < a0.size + 2 := by omega); obtain ⟨hxt, _⟩ := Kd.R_celln 0 HR.out (tt : Int) (by omega) (by omega); obtain ⟨hxf, hff⟩ := Kd.R_celln 0 HR.out (fr : Int) (by omega) (by omega); rw [Int.toNat_natCast] at hxt hxf hff; (have hstep : lfIn fr o (dd + 1) = lfStep fr tt (lfIn fr o dd) := by show lfStep fr (fr + 1 + dd) _ = _; rw [hd1.1]); unfold lfStep at hstep; have hvt : rd (lfIn fr o dd) (tt : Int) = rdOf 0 (lfIn fr o dd) (tt : Int) := rfl; have hvf : rd (lfIn fr o dd) (fr : Int) = rdOf 0 (lfIn fr o dd) (fr : Int) := rfl; rw [hvt, hvf] at hstep; clear hvt hvf; generalize rdOf 0 (lfIn fr o dd) (tt : Int) = vt at hxt hstep; generalize rdOf 0 (lfIn fr o dd) (fr : Int) = vf at hxf hstep; obtain ⟨vn, hvn⟩ : ∃ vn, wrap64 (vt + 1) = vn := ⟨_, rfl⟩; rw [hvn] at hstep; have hvn' : IntKind.i64.wrap (vt + 1) = vn := (i64_w _).trans hvn; clear hvn; have HST := am hstep; have HKD := am hd1; clear hstep hd1 HD hc hc2; have hti := eq_true (show (tt : Int) < (a0.size : Int) + 2 from Int.ofNat_lt.2 htl); have hfi := eq_true (show (fr : Int) < (a0.size : Int) + 2 from Int.ofNat_lt.2 hz); have HNX := am (lf_next HKD.out hdd); gi_upto_region 8 with (fail); by_cases c1 : 0 ≤ vt
        · have c1b : decide (0 ≤ vt) = true := decide_eq_true c1
          by_cases c2 : vf < 0
          · have c2b : decide (vf < 0) = true := decide_eq_true c2
            have HC := am (And.intro c1 (Or.inl (b := vn < vf) c2)); clear c1 c2; refine mild_region (by kernel_rfl) (n := 24) (S := (fun w' => w'.cell? ⟨W3.heap.size, 0, none⟩ = some (.slice (some ⟨go, 0, none⟩) (a0.size + 2) co) ∧ w'.cell? ⟨go, tt, none⟩ = some (.int .i64 vt) ∧ w'.cell? ⟨go, fr, none⟩ = some (.int .i64 vf))) (ds := []) (dn_ 24 0) (by kernel_rfl) rfl rfl ⟨ho1, hxt, hxf⟩ (fun hHeld => ?_); refine take_ (i := 0) (N := some 37) (v := ?_) (a' := ?_) (dn_ 24 1) rfl rfl (by kernel_rfl) (fun _ _ _ h => h) (Or.inl ⟨by rfl, ?_⟩) hHeld ?_ ?_; rotate_left
            ·rintro w' ⟨s0, s1, s2⟩; go_simp; with_reducible rfl
            rotate_left
            ·simp only [Act.put, List.setIfInBounds_toArray, List.set_cons_zero, List.set_cons_succ, i64_w, i32_w]; rfl
            refine pure_ (i := 1) (N := some 38) (v := ?_) (a' := ?_) (dn_ 24 3) rfl rfl (by kernel_rfl) (fun _ _ _ h => h) (Or.inl ⟨by rfl, ?_⟩) ?_ ?_; rotate_left
            ·intro w'; go_simp; with_reducible rfl
            rotate_left
            ·simp only [Act.put, List.setIfInBounds_toArray, List.set_cons_zero, List.set_cons_succ, i64_w, i32_w]; rfl
            refine pure_ (i := 2) (N := some 39) (v := ?_) (a' := ?_) (dn_ 24 7) rfl rfl (by kernel_rfl) (fun _ _ _ h => h) (Or.inl ⟨by rfl, ?_⟩) ?_ ?_; rotate_left
            ·intro w'; go_simp; with_reducible rfl
            rotate_left
            ·simp only [Act.put, List.setIfInBounds_toArray, List.set_cons_zero, List.set_cons_succ, i64_w, i32_w]; rfl
            refine take_ (i := 3) (N := some 40) (v := ?_) (a' := ?_) (dn_ 24 15) rfl rfl (by kernel_rfl) (fun _ _ _ h => h) (Or.inl ⟨by rfl, ?_⟩) hHeld ?_ ?_; rotate_left
            ·rintro w' ⟨s0, s1, s2⟩; go_simp; with_reducible rfl
            rotate_left
            ·simp only [Act.put, List.setIfInBounds_toArray, List.set_cons_zero, List.set_cons_succ, i64_w, i32_w]; rfl
            refine pure_ (i := 4) (N := some 41) (v := ?_) (a' := ?_) (dn_ 24 31) rfl rfl (by kernel_rfl) (fun _ _ _ h => h) (Or.inl ⟨by rfl, ?_⟩) ?_ ?_; rotate_left
            ·intro w'; go_simp; with_reducible rfl
            rotate_left
            ·simp only [Act.put, List.setIfInBounds_toArray, List.set_cons_zero, List.set_cons_succ, i64_w, i32_w]; rfl
            refine pure_ (i := 5) (N := some 42) (v := ?_) (a' := ?_) (dn_ 24 63) rfl rfl (by kernel_rfl) (fun _ _ _ h => h) (Or.inl ⟨by rfl, ?_⟩) ?_ ?_; rotate_left
            ·intro w'; go_simp; with_reducible rfl
            rotate_left
            ·simp only [Act.put, List.setIfInBounds_toArray, List.set_cons_zero, List.set_cons_succ, i64_w, i32_w]; rfl
            refine take_ (i := 6) (N := some 43) (v := ?_) (a' := ?_) (dn_ 24 127) rfl rfl (by kernel_rfl) (fun _ _ _ h => h) (Or.inl ⟨by rfl, ?_⟩) hHeld ?_ ?_; rotate_left
            ·rintro w' ⟨s0, s1, s2⟩; go_simp; with_reducible rfl
            rotate_left
            ·simp only [Act.put, List.setIfInBounds_toArray, List.set_cons_zero, List.set_cons_succ, i64_w, i32_w]; rfl
            refine pure_ (i := 7) (N := some 44) (v := ?_) (a' := ?_) (dn_ 24 255) rfl rfl (by kernel_rfl) (fun _ _ _ h => h) (Or.inl ⟨by rfl, ?_⟩) ?_ ?_; rotate_left
            ·intro w'; go_simp; with_reducible rfl
            rotate_left
            ·simp only [Act.put, List.setIfInBounds_toArray, List.set_cons_zero, List.set_cons_succ, i64_w, i32_w]; rfl
            refine pure_ (i := 8) (N := some 45) (v := ?_) (a' := ?_) (dn_ 24 511) rfl rfl (by kernel_rfl) (fun _ _ _ h => h) (Or.inl ⟨by rfl, ?_⟩) ?_ ?_; rotate_left
            ·intro w'; go_simp; with_reducible rfl
            rotate_left
            ·simp only [Act.put, List.setIfInBounds_toArray, List.set_cons_zero, List.set_cons_succ, i64_w, i32_w]; rfl
            refine take_ (i := 9) (N := some 46) (v := ?_) (a' := ?_) (dn_ 24 1023) rfl rfl (by kernel_rfl) (fun _ _ _ h => h) (Or.inl ⟨by rfl, ?_⟩) hHeld ?_ ?_; rotate_left
            ·rintro w' ⟨s0, s1, s2⟩; go_simp; with_reducible rfl
            rotate_left
            ·simp only [Act.put, List.setIfInBounds_toArray, List.set_cons_zero, List.set_cons_succ, i64_w, i32_w]; rfl
            refine pure_ (i := 10) (N := some 47) (v := ?_) (a' := ?_) (dn_ 24 2047) rfl rfl (by kernel_rfl) (fun _ _ _ h => h) (Or.inl ⟨by rfl, ?_⟩) ?_ ?_; rotate_left
            ·intro w'; go_simp; with_reducible rfl
            rotate_left
            ·simp only [Act.put, List.setIfInBounds_toArray, List.set_cons_zero, List.set_cons_succ, i64_w, i32_w]; rfl
            refine pure_ (i := 11) (N := some 48) (v := ?_) (a' := ?_) (dn_ 24 4095) rfl rfl (by kernel_rfl) (fun _ _ _ h => h) (Or.inl ⟨by rfl, ?_⟩) ?_ ?_; rotate_left
            ·intro w'; go_simp; with_reducible rfl
            rotate_left
            ·simp only [Act.put, List.setIfInBounds_toArray, List.set_cons_zero, List.set_cons_succ, i64_w, i32_w]; rfl
            refine pure_ (i := 12) (N := some 49) (v := undef) (a' := ?_) (dn_ 24 8191) rfl rfl (by kernel_rfl) (fun _ _ _ h => h) (Or.inr ⟨by rfl, rfl⟩) ?_ ?_; rotate_left
            ·simp only [Act.put, List.setIfInBounds_toArray, List.set_cons_zero, List.set_cons_succ, i64_w, i32_w]; rfl
            refine pure_ (i := 13) (N := some 50) (v := undef) (a' := ?_) (dn_ 24 16383) rfl rfl (by kernel_rfl) (fun _ _ _ h => h) (Or.inr ⟨by rfl, rfl⟩) ?_ ?_; rotate_left
            ·simp only [Act.put, List.setIfInBounds_toArray, List.set_cons_zero, List.set_cons_succ, i64_w, i32_w]; rfl
            refine pure_ (i := 14) (N := some 51) (v := undef) (a' := ?_) (dn_ 24 32767) rfl rfl (by kernel_rfl) (fun _ _ _ h => h) (Or.inr ⟨by rfl, rfl⟩) ?_ ?_; rotate_left
            ·simp only [Act.put, List.setIfInBounds_toArray, List.set_cons_zero, List.set_cons_succ, i64_w, i32_w]; rfl
            refine pure_ (i := 15) (N := some 52) (v := undef) (a' := ?_) (dn_ 24 65535) rfl rfl (by kernel_rfl) (fun _ _ _ h => h) (Or.inr ⟨by rfl, rfl⟩) ?_ ?_; rotate_left
            ·simp only [Act.put, List.setIfInBounds_toArray, List.set_cons_zero, List.set_cons_succ, i64_w, i32_w]; rfl
            refine pure_ (i := 16) (N := some 53) (v := undef) (a' := ?_) (dn_ 24 131071) rfl rfl (by kernel_rfl) (fun _ _ _ h => h) (Or.inr ⟨by rfl, rfl⟩) ?_ ?_; rotate_left
            ·simp only [Act.put, List.setIfInBounds_toArray, List.set_cons_zero, List.set_cons_succ, i64_w, i32_w]; rfl
            refine pure_ (i := 17) (N := some 54) (v := undef) (a' := ?_) (dn_ 24 262143) rfl rfl (by kernel_rfl) (fun _ _ _ h => h) (Or.inr ⟨by rfl, rfl⟩) ?_ ?_; rotate_left
            ·simp only [Act.put, List.setIfInBounds_toArray, List.set_cons_zero, List.set_cons_succ, i64_w, i32_w]; rfl
            refine pure_ (i := 18) (N := some 55) (v := undef) (a' := ?_) (dn_ 24 524287) rfl rfl (by kernel_rfl) (fun _ _ _ h => h) (Or.inr ⟨by rfl, rfl⟩) ?_ ?_; rotate_left
            ·simp only [Act.put, List.setIfInBounds_toArray, List.set_cons_zero, List.set_cons_succ, i64_w, i32_w]; rfl
            refine pure_ (i := 19) (N := some 56) (v := undef) (a' := ?_) (dn_ 24 1048575) rfl rfl (by kernel_rfl) (fun _ _ _ h => h) (Or.inr ⟨by rfl, rfl⟩) ?_ ?_; rotate_left
            ·simp only [Act.put, List.setIfInBounds_toArray, List.set_cons_zero, List.set_cons_succ, i64_w, i32_w]; rfl
            refine pure_ (i := 20) (N := some 57) (v := undef) (a' := ?_) (dn_ 24 2097151) rfl rfl (by kernel_rfl) (fun _ _ _ h => h) (Or.inr ⟨by rfl, rfl⟩) ?_ ?_; rotate_left
            ·simp only [Act.put, List.setIfInBounds_toArray, List.set_cons_zero, List.set_cons_succ, i64_w, i32_w]; rfl
            refine pure_ (i := 21) (N := some 58) (v := undef) (a' := ?_) (dn_ 24 4194303) rfl rfl (by kernel_rfl) (fun _ _ _ h => h) (Or.inr ⟨by rfl, rfl⟩) ?_ ?_; rotate_left
            ·simp only [Act.put, List.setIfInBounds_toArray, List.set_cons_zero, List.set_cons_succ, i64_w, i32_w]; rfl
            refine pure_ (i := 22) (N := some 59) (v := ?_) (a' := ?_) (dn_ 24 8388607) rfl rfl (by kernel_rfl) (fun _ _ _ h => h) (Or.inl ⟨by rfl, ?_⟩) ?_ ?_; rotate_left
            ·intro w'; go_simp; with_reducible rfl
            rotate_left
            ·simp only [Act.put, List.setIfInBounds_toArray, List.set_cons_zero, List.set_cons_succ, i64_w, i32_w]; rfl
            refine pure_ (i := 23) (N := some 60) (v := ?_) (a' := ?_) (dn_ 24 16777215) rfl rfl (by kernel_rfl) (fun _ _ _ h => h) (Or.inl ⟨by rfl, ?_⟩) ?_ ?_; rotate_left
            ·intro w'; go_simp; with_reducible rfl
            rotate_left
            ·simp only [Act.put, List.setIfInBounds_toArray, List.set_cons_zero, List.set_cons_succ, i64_w, i32_w]; rfl
            refine done_ (by kernel_rfl) (Nout.normal ?_); gi_upto_region 9 with (fail); refine mild_region (by kernel_rfl) (n := 9) (S := (fun w' => w'.cell? ⟨W3.heap.size, 0, none⟩ = some (.slice (some ⟨go, 0, none⟩) (a0.size + 2) co) ∧ w'.cell? ⟨go, tt, none⟩ = some (.int .i64 vt) ∧ w'.cell? ⟨go, fr, none⟩ = some (.int .i64 vf))) (ds := [8]) #[false, false, false, false, false, false, false, false, false] (by kernel_rfl) rfl rfl ⟨ho1, hxt, hxf⟩ (fun hHeld2 => ?_); refine take_ (i := 0) (N := some 61) (v := ?_) (a' := ?_) #[true, false, false, false, false, false, false, false, false] rfl rfl (by kernel_rfl) (fun _ _ _ h => h) (Or.inl ⟨by rfl, ?_⟩) hHeld2 ?_ ?_; rotate_left
            ·rintro w' ⟨s0, s1, s2⟩; go_simp; with_reducible rfl
            rotate_left
            ·simp only [Act.put, List.setIfInBounds_toArray, List.set_cons_zero, List.set_cons_succ, i64_w, i32_w]; rfl
            refine pure_ (i := 1) (N := some 62) (v := ?_) (a' := ?_) #[true, true, false, false, false, false, false, false, false] rfl rfl (by kernel_rfl) (fun _ _ _ h => h) (Or.inl ⟨by rfl, ?_⟩) ?_ ?_; rotate_left
            ·intro w'; go_simp; with_reducible rfl
            rotate_left
            ·simp only [Act.put, List.setIfInBounds_toArray, List.set_cons_zero, List.set_cons_succ, i64_w, i32_w]; rfl
            refine take_ (i := 2) (N := some 63) (v := ?_) (a' := ?_) #[true, true, true, false, false, false, false, false, false] rfl rfl (by kernel_rfl) (fun _ _ _ h => h) (Or.inl ⟨by rfl, ?_⟩) hHeld2 ?_ ?_; rotate_left
            ·rintro w' ⟨s0, s1, s2⟩; go_simp; with_reducible rfl
            rotate_left
            ·simp only [Act.put, List.setIfInBounds_toArray, List.set_cons_zero, List.set_cons_succ, i64_w, i32_w]; rfl
            refine pure_ (i := 3) (N := some 64) (v := ?_) (a' := ?_) #[true, true, true, true, false, false, false, false, false] rfl rfl (by kernel_rfl) (fun _ _ _ h => h) (Or.inl ⟨by rfl, ?_⟩) ?_ ?_; rotate_left
            ·intro w'; go_simp; with_reducible rfl
            rotate_left
            ·simp only [Act.put, List.setIfInBounds_toArray, List.set_cons_zero, List.set_cons_succ, i64_w, i32_w]; rfl
            refine pure_ (i := 4) (N := some 65) (v := ?_) (a' := ?_) #[true, true, true, true, true, false, false, false, false] rfl rfl (by kernel_rfl) (fun _ _ _ h => h) (Or.inl ⟨by rfl, ?_⟩) ?_ ?_; rotate_left
            ·intro w'; go_simp; with_reducible rfl
            rotate_left
            ·simp only [Act.put, List.setIfInBounds_toArray, List.set_cons_zero, List.set_cons_succ, i64_w, i32_w]; rfl
            refine take_ (i := 5) (N := some 66) (v := ?_) (a' := ?_) #[true, true, true, true, true, true, false, false, false] rfl rfl (by kernel_rfl) (fun _ _ _ h => h) (Or.inl ⟨by rfl, ?_⟩) hHeld2 ?_ ?_; rotate_left
            ·rintro w' ⟨s0, s1, s2⟩; go_simp; with_reducible rfl
            rotate_left
            ·simp only [Act.put, List.setIfInBounds_toArray, List.set_cons_zero, List.set_cons_succ, i64_w, i32_w]; rfl
            refine pure_ (i := 6) (N := some 67) (v := ?_) (a' := ?_) #[true, true, true, true, true, true, true, false, false] rfl rfl (by kernel_rfl) (fun _ _ _ h => h) (Or.inl ⟨by rfl, ?_⟩) ?_ ?_; rotate_left
            ·intro w'; go_simp; with_reducible rfl
            rotate_left
            ·simp only [Act.put, List.setIfInBounds_toArray, List.set_cons_zero, List.set_cons_succ, i64_w, i32_w]; rfl
            refine pure_ (i := 7) (N := some 68) (v := ?_) (a' := ?_) #[true, true, true, true, true, true, true, true, false] rfl rfl (by kernel_rfl) (fun _ _ _ h => h) (Or.inl ⟨by rfl, ?_⟩) ?_ ?_; rotate_left
            ·intro w'; go_simp; with_reducible rfl
            rotate_left
            ·simp only [Act.put, List.setIfInBounds_toArray, List.set_cons_zero, List.set_cons_succ, i64_w, i32_w]; rfl
            refine last_ (i := 8) (N := none) #[true, true, true, true, true, true, true, true, true] rfl rfl (by kernel_rfl) (by decide) (fun K hK => ?_); refine skip_ (w1 := ?_) (by rfl) rfl ?_ ?_; rotate_left
            ·go_simp; rfl
            refine hK.out _ _ ?_; clear hK K; refine done_ (by kernel_rfl) (Nout.normal ?_); have hp1 := Kd.R_putg HR.out (fr : Int) vn; rw [Int.toNat_natCast] at hp1; have HP1 := am (Kd.R_drew (Kd.R_drew hp1.1)); have HKK := am ((KeepsFrom.of_grownBy (B := W7.heap.size) hp1.2 (fun j e => by cases e; exact HZ.out.2.2.2.1)).trans (((KeepsOthers.drew _).trans (KeepsOthers.drew _)).from _)); have HSS : Aside0 (Beside go W7.heap.size wr (wr.setCell ⟨go, fr, none⟩ (.int .i64 vn)).drew.drew) := ⟨(beside_set (B := W7.heap.size) hp1.2 (by simp)).trans (fun _ _ _ => rfl)⟩; have HBB := am (below_drew (below_drew (HB.out.setCell (p := ⟨go, fr, none⟩) HZ.out.2.2.2.2 (.int .i64 vn)))); clear hp1; (try generalize (wr.setCell ⟨go, fr, none⟩ (.int .i64 vn)).drew.drew = w9 at HP1 HKK HSS HBB ⊢); gi_wp2; gi_roundg k1
            case measure => exact Nat.lt_succ_self _
            case rel =>
              have h1 := HST.out; rw [if_pos (HC.out)] at h1; refine ⟨dd + 1, tt + 1, by simp, HNX, ⟨by rw [h1]; exact HP1.out⟩, ⟨HK.out.trans HKK.out⟩, ⟨HS.out.trans HSS.out⟩, HBB⟩
          · have c2b : decide (vf < 0) = false := decide_eq_false c2
            by_cases c3 : vn < vf
            · have c3b : decide (vn < vf) = true := decide_eq_true c3
              have HC := am (And.intro c1 (Or.inr (a := vf < 0) c3)); clear c1 c2 c3; refine mild_region (by kernel_rfl) (n := 24) (S := (fun w' => w'.cell? ⟨W3.heap.size, 0, none⟩ = some (.slice (some ⟨go, 0, none⟩) (a0.size + 2) co) ∧ w'.cell? ⟨go, tt, none⟩ = some (.int .i64 vt) ∧ w'.cell? ⟨go, fr, none⟩ = some (.int .i64 vf))) (ds := []) (dn_ 24 0) (by kernel_rfl) rfl rfl ⟨ho1, hxt, hxf⟩ (fun hHeld => ?_); refine take_ (i := 0) (N := some 37) (v := ?_) (a' := ?_) (dn_ 24 1) rfl rfl (by kernel_rfl) (fun _ _ _ h => h) (Or.inl ⟨by rfl, ?_⟩) hHeld ?_ ?_; rotate_left
              ·rintro w' ⟨s0, s1, s2⟩; go_simp; with_reducible rfl
              rotate_left
              ·simp only [Act.put, List.setIfInBounds_toArray, List.set_cons_zero, List.set_cons_succ, i64_w, i32_w]; rfl
              refine pure_ (i := 1) (N := some 38) (v := ?_) (a' := ?_) (dn_ 24 3) rfl rfl (by kernel_rfl) (fun _ _ _ h => h) (Or.inl ⟨by rfl, ?_⟩) ?_ ?_; rotate_left
              ·intro w'; go_simp; with_reducible rfl
              rotate_left
              ·simp only [Act.put, List.setIfInBounds_toArray, List.set_cons_zero, List.set_cons_succ, i64_w, i32_w]; rfl
              refine pure_ (i := 2) (N := some 39) (v := ?_) (a' := ?_) (dn_ 24 7) rfl rfl (by kernel_rfl) (fun _ _ _ h => h) (Or.inl ⟨by rfl, ?_⟩) ?_ ?_; rotate_left
              ·intro w'; go_simp; with_reducible rfl
              rotate_left
              ·simp only [Act.put, List.setIfInBounds_toArray, List.set_cons_zero, List.set_cons_succ, i64_w, i32_w]; rfl
              refine take_ (i := 3) (N := some 40) (v := ?_) (a' := ?_) (dn_ 24 15) rfl rfl (by kernel_rfl) (fun _ _ _ h => h) (Or.inl ⟨by rfl, ?_⟩) hHeld ?_ ?_; rotate_left
              ·rintro w' ⟨s0, s1, s2⟩; go_simp; with_reducible rfl
              rotate_left
              ·simp only [Act.put, List.setIfInBounds_toArray, List.set_cons_zero, List.set_cons_succ, i64_w, i32_w]; rfl
              refine pure_ (i := 4) (N := some 41) (v := ?_) (a' := ?_) (dn_ 24 31) rfl rfl (by kernel_rfl) (fun _ _ _ h => h) (Or.inl ⟨by rfl, ?_⟩) ?_ ?_; rotate_left
              ·intro w'; go_simp; with_reducible rfl
              rotate_left
              ·simp only [Act.put, List.setIfInBounds_toArray, List.set_cons_zero, List.set_cons_succ, i64_w, i32_w]; rfl
              refine pure_ (i := 5) (N := some 42) (v := ?_) (a' := ?_) (dn_ 24 63) rfl rfl (by kernel_rfl) (fun _ _ _ h => h) (Or.inl ⟨by rfl, ?_⟩) ?_ ?_; rotate_left
              ·intro w'; go_simp; with_reducible rfl
              rotate_left
              ·simp only [Act.put, List.setIfInBounds_toArray, List.set_cons_zero, List.set_cons_succ, i64_w, i32_w]; rfl
              refine take_ (i := 6) (N := some 43) (v := ?_) (a' := ?_) (dn_ 24 127) rfl rfl (by kernel_rfl) (fun _ _ _ h => h) (Or.inl ⟨by rfl, ?_⟩) hHeld ?_ ?_; rotate_left
              ·rintro w' ⟨s0, s1, s2⟩; go_simp; with_reducible rfl
              rotate_left
              ·simp only [Act.put, List.setIfInBounds_toArray, List.set_cons_zero, List.set_cons_succ, i64_w, i32_w]; rfl
              refine pure_ (i := 7) (N := some 44) (v := ?_) (a' := ?_) (dn_ 24 255) rfl rfl (by kernel_rfl) (fun _ _ _ h => h) (Or.inl ⟨by rfl, ?_⟩) ?_ ?_; rotate_left
              ·intro w'; go_simp; with_reducible rfl
              rotate_left
              ·simp only [Act.put, List.setIfInBounds_toArray, List.set_cons_zero, List.set_cons_succ, i64_w, i32_w]; rfl
              refine pure_ (i := 8) (N := some 45) (v := ?_) (a' := ?_) (dn_ 24 511) rfl rfl (by kernel_rfl) (fun _ _ _ h => h) (Or.inl ⟨by rfl, ?_⟩) ?_ ?_; rotate_left
              ·intro w'; go_simp; with_reducible rfl
              rotate_left
              ·simp only [Act.put, List.setIfInBounds_toArray, List.set_cons_zero, List.set_cons_succ, i64_w, i32_w]; rfl
              refine take_ (i := 9) (N := some 46) (v := ?_) (a' := ?_) (dn_ 24 1023) rfl rfl (by kernel_rfl) (fun _ _ _ h => h) (Or.inl ⟨by rfl, ?_⟩) hHeld ?_ ?_; rotate_left
              ·rintro w' ⟨s0, s1, s2⟩; go_simp; with_reducible rfl
              rotate_left
              ·simp only [Act.put, List.setIfInBounds_toArray, List.set_cons_zero, List.set_cons_succ, i64_w, i32_w]; rfl
              refine pure_ (i := 10) (N := some 47) (v := ?_) (a' := ?_) (dn_ 24 2047) rfl rfl (by kernel_rfl) (fun _ _ _ h => h) (Or.inl ⟨by rfl, ?_⟩) ?_ ?_; rotate_left
              ·intro w'; go_simp; with_reducible rfl
              rotate_left
              ·simp only [Act.put, List.setIfInBounds_toArray, List.set_cons_zero, List.set_cons_succ, i64_w, i32_w]; rfl
              refine pure_ (i := 11) (N := some 48) (v := ?_) (a' := ?_) (dn_ 24 4095) rfl rfl (by kernel_rfl) (fun _ _ _ h => h) (Or.inl ⟨by rfl, ?_⟩) ?_ ?_; rotate_left
              ·intro w'; go_simp; with_reducible rfl
              rotate_left
              ·simp only [Act.put, List.setIfInBounds_toArray, List.set_cons_zero, List.set_cons_succ, i64_w, i32_w]; rfl
              refine take_ (i := 12) (N := some 49) (v := ?_) (a' := ?_) (dn_ 24 8191) rfl rfl (by kernel_rfl) (fun _ _ _ h => h) (Or.inl ⟨by rfl, ?_⟩) hHeld ?_ ?_; rotate_left
              ·rintro w' ⟨s0, s1, s2⟩; go_simp; with_reducible rfl
              rotate_left
              ·simp only [Act.put, List.setIfInBounds_toArray, List.set_cons_zero, List.set_cons_succ, i64_w, i32_w]; rfl
              refine pure_ (i := 13) (N := some 50) (v := ?_) (a' := ?_) (dn_ 24 16383) rfl rfl (by kernel_rfl) (fun _ _ _ h => h) (Or.inl ⟨by rfl, ?_⟩) ?_ ?_; rotate_left
              ·intro w'; go_simp; with_reducible rfl
              rotate_left
              ·simp only [Act.put, List.setIfInBounds_toArray, List.set_cons_zero, List.set_cons_succ, i64_w, i32_w]; rfl
              refine pure_ (i := 14) (N := some 51) (v := ?_) (a' := ?_) (dn_ 24 32767) rfl rfl (by kernel_rfl) (fun _ _ _ h => h) (Or.inl ⟨by rfl, ?_⟩) ?_ ?_; rotate_left
              ·intro w'; go_simp; with_reducible rfl
              rotate_left
              ·simp only [Act.put, List.setIfInBounds_toArray, List.set_cons_zero, List.set_cons_succ, i64_w, i32_w]; rfl
              refine take_ (i := 15) (N := some 52) (v := ?_) (a' := ?_) (dn_ 24 65535) rfl rfl (by kernel_rfl) (fun _ _ _ h => h) (Or.inl ⟨by rfl, ?_⟩) hHeld ?_ ?_; rotate_left
              ·rintro w' ⟨s0, s1, s2⟩; go_simp; with_reducible rfl
              rotate_left
              ·simp only [Act.put, List.setIfInBounds_toArray, List.set_cons_zero, List.set_cons_succ, i64_w, i32_w]; rfl
              refine pure_ (i := 16) (N := some 53) (v := ?_) (a' := ?_) (dn_ 24 131071) rfl rfl (by kernel_rfl) (fun _ _ _ h => h) (Or.inl ⟨by rfl, ?_⟩) ?_ ?_; rotate_left
              ·intro w'; go_simp; with_reducible rfl
              rotate_left
              ·simp only [Act.put, List.setIfInBounds_toArray, List.set_cons_zero, List.set_cons_succ, i64_w, i32_w]; rfl
              refine take_ (i := 17) (N := some 54) (v := ?_) (a' := ?_) (dn_ 24 262143) rfl rfl (by kernel_rfl) (fun _ _ _ h => h) (Or.inl ⟨by rfl, ?_⟩) hHeld ?_ ?_; rotate_left
              ·rintro w' ⟨s0, s1, s2⟩; go_simp; with_reducible rfl
              rotate_left
              ·simp only [Act.put, List.setIfInBounds_toArray, List.set_cons_zero, List.set_cons_succ, i64_w, i32_w]; rfl
              refine pure_ (i := 18) (N := some 55) (v := ?_) (a' := ?_) (dn_ 24 524287) rfl rfl (by kernel_rfl) (fun _ _ _ h => h) (Or.inl ⟨by rfl, ?_⟩) ?_ ?_; rotate_left
              ·intro w'; go_simp; with_reducible rfl
              rotate_left
              ·simp only [Act.put, List.setIfInBounds_toArray, List.set_cons_zero, List.set_cons_succ, i64_w, i32_w]; rfl
              refine pure_ (i := 19) (N := some 56) (v := ?_) (a' := ?_) (dn_ 24 1048575) rfl rfl (by kernel_rfl) (fun _ _ _ h => h) (Or.inl ⟨by rfl, ?_⟩) ?_ ?_; rotate_left
              ·intro w'; go_simp; with_reducible rfl
              rotate_left
              ·simp only [Act.put, List.setIfInBounds_toArray, List.set_cons_zero, List.set_cons_succ, i64_w, i32_w]; rfl
              refine take_ (i := 20) (N := some 57) (v := ?_) (a' := ?_) (dn_ 24 2097151) rfl rfl (by kernel_rfl) (fun _ _ _ h => h) (Or.inl ⟨by rfl, ?_⟩) hHeld ?_ ?_; rotate_left
              ·rintro w' ⟨s0, s1, s2⟩; go_simp; with_reducible rfl
              rotate_left
              ·simp only [Act.put, List.setIfInBounds_toArray, List.set_cons_zero, List.set_cons_succ, i64_w, i32_w]; rfl
              refine pure_ (i := 21) (N := some 58) (v := ?_) (a' := ?_) (dn_ 24 4194303) rfl rfl (by kernel_rfl) (fun _ _ _ h => h) (Or.inl ⟨by rfl, ?_⟩) ?_ ?_; rotate_left
              ·intro w'; go_simp; with_reducible rfl
              rotate_left
              ·simp only [Act.put, List.setIfInBounds_toArray, List.set_cons_zero, List.set_cons_succ, i64_w, i32_w]; rfl
              refine pure_ (i := 22) (N := some 59) (v := ?_) (a' := ?_) (dn_ 24 8388607) rfl rfl (by kernel_rfl) (fun _ _ _ h => h) (Or.inl ⟨by rfl, ?_⟩) ?_ ?_; rotate_left
              ·intro w'; go_simp; with_reducible rfl
              rotate_left
              ·simp only [Act.put, List.setIfInBounds_toArray, List.set_cons_zero, List.set_cons_succ, i64_w, i32_w]; rfl
              refine pure_ (i := 23) (N := some 60) (v := ?_) (a' := ?_) (dn_ 24 16777215) rfl rfl (by kernel_rfl) (fun _ _ _ h => h) (Or.inl ⟨by rfl, ?_⟩) ?_ ?_; rotate_left
              ·intro w'; go_simp; with_reducible rfl
              rotate_left
              ·simp only [Act.put, List.setIfInBounds_toArray, List.set_cons_zero, List.set_cons_succ, i64_w, i32_w]; rfl
              refine done_ (by kernel_rfl) (Nout.normal ?_); gi_upto_region 9 with (fail); refine mild_region (by kernel_rfl) (n := 9) (S := (fun w' => w'.cell? ⟨W3.heap.size, 0, none⟩ = some (.slice (some ⟨go, 0, none⟩) (a0.size + 2) co) ∧ w'.cell? ⟨go, tt, none⟩ = some (.int .i64 vt) ∧ w'.cell? ⟨go, fr, none⟩ = some (.int .i64 vf))) (ds := [8]) #[false, false, false, false, false, false, false, false, false] (by kernel_rfl) rfl rfl ⟨ho1, hxt, hxf⟩ (fun hHeld2 => ?_); refine take_ (i := 0) (N := some 61) (v := ?_) (a' := ?_) #[true, false, false, false, false, false, false, false, false] rfl rfl (by kernel_rfl) (fun _ _ _ h => h) (Or.inl ⟨by rfl, ?_⟩) hHeld2 ?_ ?_; rotate_left
              ·rintro w' ⟨s0, s1, s2⟩; go_simp; with_reducible rfl
              rotate_left
              ·simp only [Act.put, List.setIfInBounds_toArray, List.set_cons_zero, List.set_cons_succ, i64_w, i32_w]; rfl
              refine pure_ (i := 1) (N := some 62) (v := ?_) (a' := ?_) #[true, true, false, false, false, false, false, false, false] rfl rfl (by kernel_rfl) (fun _ _ _ h => h) (Or.inl ⟨by rfl, ?_⟩) ?_ ?_; rotate_left
              ·intro w'; go_simp; with_reducible rfl
              rotate_left
              ·simp only [Act.put, List.setIfInBounds_toArray, List.set_cons_zero, List.set_cons_succ, i64_w, i32_w]; rfl
              refine take_ (i := 2) (N := some 63) (v := ?_) (a' := ?_) #[true, true, true, false, false, false, false, false, false] rfl rfl (by kernel_rfl) (fun _ _ _ h => h) (Or.inl ⟨by rfl, ?_⟩) hHeld2 ?_ ?_; rotate_left
              ·rintro w' ⟨s0, s1, s2⟩; go_simp; with_reducible rfl
              rotate_left
              ·simp only [Act.put, List.setIfInBounds_toArray, List.set_cons_zero, List.set_cons_succ, i64_w, i32_w]; rfl
              refine pure_ (i := 3) (N := some 64) (v := ?_) (a' := ?_) #[true, true, true, true, false, false, false, false, false] rfl rfl (by kernel_rfl) (fun _ _ _ h => h) (Or.inl ⟨by rfl, ?_⟩) ?_ ?_; rotate_left
              ·intro w'; go_simp; with_reducible rfl
              rotate_left
              ·simp only [Act.put, List.setIfInBounds_toArray, List.set_cons_zero, List.set_cons_succ, i64_w, i32_w]; rfl
              refine pure_ (i := 4) (N := some 65) (v := ?_) (a' := ?_) #[true, true, true, true, true, false, false, false, false] rfl rfl (by kernel_rfl) (fun _ _ _ h => h) (Or.inl ⟨by rfl, ?_⟩) ?_ ?_; rotate_left
              ·intro w'; go_simp; with_reducible rfl
              rotate_left
              ·simp only [Act.put, List.setIfInBounds_toArray, List.set_cons_zero, List.set_cons_succ, i64_w, i32_w]; rfl
              refine take_ (i := 5) (N := some 66) (v := ?_) (a' := ?_) #[true, true, true, true, true, true, false, false, false] rfl rfl (by kernel_rfl) (fun _ _ _ h => h) (Or.inl ⟨by rfl, ?_⟩) hHeld2 ?_ ?_; rotate_left
              ·rintro w' ⟨s0, s1, s2⟩; go_simp; with_reducible rfl
              rotate_left
              ·simp only [Act.put, List.setIfInBounds_toArray, List.set_cons_zero, List.set_cons_succ, i64_w, i32_w]; rfl
              refine pure_ (i := 6) (N := some 67) (v := ?_) (a' := ?_) #[true, true, true, true, true, true, true, false, false] rfl rfl (by kernel_rfl) (fun _ _ _ h => h) (Or.inl ⟨by rfl, ?_⟩) ?_ ?_; rotate_left
              ·intro w'; go_simp; with_reducible rfl
              rotate_left
              ·simp only [Act.put, List.setIfInBounds_toArray, List.set_cons_zero, List.set_cons_succ, i64_w, i32_w]; rfl
              refine pure_ (i := 7) (N := some 68) (v := ?_) (a' := ?_) #[true, true, true, true, true, true, true, true, false] rfl rfl (by kernel_rfl) (fun _ _ _ h => h) (Or.inl ⟨by rfl, ?_⟩) ?_ ?_; rotate_left
              ·intro w'; go_simp; with_reducible rfl
              rotate_left
              ·simp only [Act.put, List.setIfInBounds_toArray, List.set_cons_zero, List.set_cons_succ, i64_w, i32_w]; rfl
              refine last_ (i := 8) (N := none) #[true, true, true, true, true, true, true, true, true] rfl rfl (by kernel_rfl) (by decide) (fun K hK => ?_); refine skip_ (w1 := ?_) (by rfl) rfl ?_ ?_; rotate_left
              ·go_simp; rfl
              refine hK.out _ _ ?_; clear hK K; refine done_ (by kernel_rfl) (Nout.normal ?_); have hp1 := Kd.R_putg HR.out (fr : Int) vn; rw [Int.toNat_natCast] at hp1; have HP1 := am (Kd.R_drew (Kd.R_drew hp1.1)); have HKK := am ((KeepsFrom.of_grownBy (B := W7.heap.size) hp1.2 (fun j e => by cases e; exact HZ.out.2.2.2.1)).trans (((KeepsOthers.drew _).trans (KeepsOthers.drew _)).from _)); have HSS : Aside0 (Beside go W7.heap.size wr (wr.setCell ⟨go, fr, none⟩ (.int .i64 vn)).drew.drew) := ⟨(beside_set (B := W7.heap.size) hp1.2 (by simp)).trans (fun _ _ _ => rfl)⟩; have HBB := am (below_drew (below_drew (HB.out.setCell (p := ⟨go, fr, none⟩) HZ.out.2.2.2.2 (.int .i64 vn)))); clear hp1; (try generalize (wr.setCell ⟨go, fr, none⟩ (.int .i64 vn)).drew.drew = w9 at HP1 HKK HSS HBB ⊢); gi_wp2; gi_roundg k1
              case measure => exact Nat.lt_succ_self _
              case rel =>
                have h1 := HST.out; rw [if_pos (HC.out)] at h1; refine ⟨dd + 1, tt + 1, by simp, HNX, ⟨by rw [h1]; exact HP1.out⟩, ⟨HK.out.trans HKK.out⟩, ⟨HS.out.trans HSS.out⟩, HBB⟩
            · have c3b : decide (vn < vf) = false := decide_eq_false c3
              have HC : Aside0 (¬ (0 ≤ vt ∧ (vf < 0 ∨ vn < vf))) := ⟨fun h => h.2.elim c2 c3⟩; clear c1 c2 c3; refine mild_region (by kernel_rfl) (n := 24) (S := (fun w' => w'.cell? ⟨W3.heap.size, 0, none⟩ = some (.slice (some ⟨go, 0, none⟩) (a0.size + 2) co) ∧ w'.cell? ⟨go, tt, none⟩ = some (.int .i64 vt) ∧ w'.cell? ⟨go, fr, none⟩ = some (.int .i64 vf))) (ds := []) (dn_ 24 0) (by kernel_rfl) rfl rfl ⟨ho1, hxt, hxf⟩ (fun hHeld => ?_); refine take_ (i := 0) (N := some 37) (v := ?_) (a' := ?_) (dn_ 24 1) rfl rfl (by kernel_rfl) (fun _ _ _ h => h) (Or.inl ⟨by rfl, ?_⟩) hHeld ?_ ?_; rotate_left
              ·rintro w' ⟨s0, s1, s2⟩; go_simp; with_reducible rfl
              rotate_left
              ·simp only [Act.put, List.setIfInBounds_toArray, List.set_cons_zero, List.set_cons_succ, i64_w, i32_w]; rfl
              refine pure_ (i := 1) (N := some 38) (v := ?_) (a' := ?_) (dn_ 24 3) rfl rfl (by kernel_rfl) (fun _ _ _ h => h) (Or.inl ⟨by rfl, ?_⟩) ?_ ?_; rotate_left
              ·intro w'; go_simp; with_reducible rfl
              rotate_left
              ·simp only [Act.put, List.setIfInBounds_toArray, List.set_cons_zero, List.set_cons_succ, i64_w, i32_w]; rfl
              refine pure_ (i := 2) (N := some 39) (v := ?_) (a' := ?_) (dn_ 24 7) rfl rfl (by kernel_rfl) (fun _ _ _ h => h) (Or.inl ⟨by rfl, ?_⟩) ?_ ?_; rotate_left
              ·intro w'; go_simp; with_reducible rfl
              rotate_left
              ·simp only [Act.put, List.setIfInBounds_toArray, List.set_cons_zero, List.set_cons_succ, i64_w, i32_w]; rfl
              refine take_ (i := 3) (N := some 40) (v := ?_) (a' := ?_) (dn_ 24 15) rfl rfl (by kernel_rfl) (fun _ _ _ h => h) (Or.inl ⟨by rfl, ?_⟩) hHeld ?_ ?_; rotate_left
              ·rintro w' ⟨s0, s1, s2⟩; go_simp; with_reducible rfl
              rotate_left
              ·simp only [Act.put, List.setIfInBounds_toArray, List.set_cons_zero, List.set_cons_succ, i64_w, i32_w]; rfl
              refine pure_ (i := 4) (N := some 41) (v := ?_) (a' := ?_) (dn_ 24 31) rfl rfl (by kernel_rfl) (fun _ _ _ h => h) (Or.inl ⟨by rfl, ?_⟩) ?_ ?_; rotate_left
              ·intro w'; go_simp; with_reducible rfl
              rotate_left
              ·simp only [Act.put, List.setIfInBounds_toArray, List.set_cons_zero, List.set_cons_succ, i64_w, i32_w]; rfl
              refine pure_ (i := 5) (N := some 42) (v := ?_) (a' := ?_) (dn_ 24 63) rfl rfl (by kernel_rfl) (fun _ _ _ h => h) (Or.inl ⟨by rfl, ?_⟩) ?_ ?_; rotate_left
              ·intro w'; go_simp; with_reducible rfl
              rotate_left
              ·simp only [Act.put, List.setIfInBounds_toArray, List.set_cons_zero, List.set_cons_succ, i64_w, i32_w]; rfl
              refine take_ (i := 6) (N := some 43) (v := ?_) (a' := ?_) (dn_ 24 127) rfl rfl (by kernel_rfl) (fun _ _ _ h => h) (Or.inl ⟨by rfl, ?_⟩) hHeld ?_ ?_; rotate_left
              ·rintro w' ⟨s0, s1, s2⟩; go_simp; with_reducible rfl
              rotate_left
              ·simp only [Act.put, List.setIfInBounds_toArray, List.set_cons_zero, List.set_cons_succ, i64_w, i32_w]; rfl
              refine pure_ (i := 7) (N := some 44) (v := ?_) (a' := ?_) (dn_ 24 255) rfl rfl (by kernel_rfl) (fun _ _ _ h => h) (Or.inl ⟨by rfl, ?_⟩) ?_ ?_; rotate_left
              ·intro w'; go_simp; with_reducible rfl
              rotate_left
              ·simp only [Act.put, List.setIfInBounds_toArray, List.set_cons_zero, List.set_cons_succ, i64_w, i32_w]; rfl
              refine pure_ (i := 8) (N := some 45) (v := ?_) (a' := ?_) (dn_ 24 511) rfl rfl (by kernel_rfl) (fun _ _ _ h => h) (Or.inl ⟨by rfl, ?_⟩) ?_ ?_; rotate_left
              ·intro w'; go_simp; with_reducible rfl
              rotate_left
              ·simp only [Act.put, List.setIfInBounds_toArray, List.set_cons_zero, List.set_cons_succ, i64_w, i32_w]; rfl
              refine take_ (i := 9) (N := some 46) (v := ?_) (a' := ?_) (dn_ 24 1023) rfl rfl (by kernel_rfl) (fun _ _ _ h => h) (Or.inl ⟨by rfl, ?_⟩) hHeld ?_ ?_; rotate_left
              ·rintro w' ⟨s0, s1, s2⟩; go_simp; with_reducible rfl
              rotate_left
              ·simp only [Act.put, List.setIfInBounds_toArray, List.set_cons_zero, List.set_cons_succ, i64_w, i32_w]; rfl
              refine pure_ (i := 10) (N := some 47) (v := ?_) (a' := ?_) (dn_ 24 2047) rfl rfl (by kernel_rfl) (fun _ _ _ h => h) (Or.inl ⟨by rfl, ?_⟩) ?_ ?_; rotate_left
              ·intro w'; go_simp; with_reducible rfl
              rotate_left
              ·simp only [Act.put, List.setIfInBounds_toArray, List.set_cons_zero, List.set_cons_succ, i64_w, i32_w]; rfl
              refine pure_ (i := 11) (N := some 48) (v := ?_) (a' := ?_) (dn_ 24 4095) rfl rfl (by kernel_rfl) (fun _ _ _ h => h) (Or.inl ⟨by rfl, ?_⟩) ?_ ?_; rotate_left
              ·intro w'; go_simp; with_reducible rfl
              rotate_left
              ·simp only [Act.put, List.setIfInBounds_toArray, List.set_cons_zero, List.set_cons_succ, i64_w, i32_w]; rfl
              refine take_ (i := 12) (N := some 49) (v := ?_) (a' := ?_) (dn_ 24 8191) rfl rfl (by kernel_rfl) (fun _ _ _ h => h) (Or.inl ⟨by rfl, ?_⟩) hHeld ?_ ?_; rotate_left
              ·rintro w' ⟨s0, s1, s2⟩; go_simp; with_reducible rfl
              rotate_left
              ·simp only [Act.put, List.setIfInBounds_toArray, List.set_cons_zero, List.set_cons_succ, i64_w, i32_w]; rfl
              refine pure_ (i := 13) (N := some 50) (v := ?_) (a' := ?_) (dn_ 24 16383) rfl rfl (by kernel_rfl) (fun _ _ _ h => h) (Or.inl ⟨by rfl, ?_⟩) ?_ ?_; rotate_left
              ·intro w'; go_simp; with_reducible rfl
              rotate_left
              ·simp only [Act.put, List.setIfInBounds_toArray, List.set_cons_zero, List.set_cons_succ, i64_w, i32_w]; rfl
              refine pure_ (i := 14) (N := some 51) (v := ?_) (a' := ?_) (dn_ 24 32767) rfl rfl (by kernel_rfl) (fun _ _ _ h => h) (Or.inl ⟨by rfl, ?_⟩) ?_ ?_; rotate_left
              ·intro w'; go_simp; with_reducible rfl
              rotate_left
              ·simp only [Act.put, List.setIfInBounds_toArray, List.set_cons_zero, List.set_cons_succ, i64_w, i32_w]; rfl
              refine take_ (i := 15) (N := some 52) (v := ?_) (a' := ?_) (dn_ 24 65535) rfl rfl (by kernel_rfl) (fun _ _ _ h => h) (Or.inl ⟨by rfl, ?_⟩) hHeld ?_ ?_; rotate_left
              ·rintro w' ⟨s0, s1, s2⟩; go_simp; with_reducible rfl
              rotate_left
              ·simp only [Act.put, List.setIfInBounds_toArray, List.set_cons_zero, List.set_cons_succ, i64_w, i32_w]; rfl
              refine pure_ (i := 16) (N := some 53) (v := ?_) (a' := ?_) (dn_ 24 131071) rfl rfl (by kernel_rfl) (fun _ _ _ h => h) (Or.inl ⟨by rfl, ?_⟩) ?_ ?_; rotate_left
              ·intro w'; go_simp; with_reducible rfl
              rotate_left
              ·simp only [Act.put, List.setIfInBounds_toArray, List.set_cons_zero, List.set_cons_succ, i64_w, i32_w]; rfl
              refine take_ (i := 17) (N := some 54) (v := ?_) (a' := ?_) (dn_ 24 262143) rfl rfl (by kernel_rfl) (fun _ _ _ h => h) (Or.inl ⟨by rfl, ?_⟩) hHeld ?_ ?_; rotate_left
              ·rintro w' ⟨s0, s1, s2⟩; go_simp; with_reducible rfl
              rotate_left
              ·simp only [Act.put, List.setIfInBounds_toArray, List.set_cons_zero, List.set_cons_succ, i64_w, i32_w]; rfl
              refine pure_ (i := 18) (N := some 55) (v := ?_) (a' := ?_) (dn_ 24 524287) rfl rfl (by kernel_rfl) (fun _ _ _ h => h) (Or.inl ⟨by rfl, ?_⟩) ?_ ?_; rotate_left
              ·intro w'; go_simp; with_reducible rfl
              rotate_left
              ·simp only [Act.put, List.setIfInBounds_toArray, List.set_cons_zero, List.set_cons_succ, i64_w, i32_w]; rfl
              refine pure_ (i := 19) (N := some 56) (v := ?_) (a' := ?_) (dn_ 24 1048575) rfl rfl (by kernel_rfl) (fun _ _ _ h => h) (Or.inl ⟨by rfl, ?_⟩) ?_ ?_; rotate_left
              ·intro w'; go_simp; with_reducible rfl
              rotate_left
              ·simp only [Act.put, List.setIfInBounds_toArray, List.set_cons_zero, List.set_cons_succ, i64_w, i32_w]; rfl
              refine take_ (i := 20) (N := some 57) (v := ?_) (a' := ?_) (dn_ 24 2097151) rfl rfl (by kernel_rfl) (fun _ _ _ h => h) (Or.inl ⟨by rfl, ?_⟩) hHeld ?_ ?_; rotate_left
              ·rintro w' ⟨s0, s1, s2⟩; go_simp; with_reducible rfl
              rotate_left
              ·simp only [Act.put, List.setIfInBounds_toArray, List.set_cons_zero, List.set_cons_succ, i64_w, i32_w]; rfl
              refine pure_ (i := 21) (N := some 58) (v := ?_) (a' := ?_) (dn_ 24 4194303) rfl rfl (by kernel_rfl) (fun _ _ _ h => h) (Or.inl ⟨by rfl, ?_⟩) ?_ ?_; rotate_left
              ·intro w'; go_simp; with_reducible rfl
              rotate_left
              ·simp only [Act.put, List.setIfInBounds_toArray, List.set_cons_zero, List.set_cons_succ, i64_w, i32_w]; rfl
              refine pure_ (i := 22) (N := some 59) (v := ?_) (a' := ?_) (dn_ 24 8388607) rfl rfl (by kernel_rfl) (fun _ _ _ h => h) (Or.inl ⟨by rfl, ?_⟩) ?_ ?_; rotate_left
              ·intro w'; go_simp; with_reducible rfl
              rotate_left
              ·simp only [Act.put, List.setIfInBounds_toArray, List.set_cons_zero, List.set_cons_succ, i64_w, i32_w]; rfl
              refine pure_ (i := 23) (N := some 60) (v := ?_) (a' := ?_) (dn_ 24 16777215) rfl rfl (by kernel_rfl) (fun _ _ _ h => h) (Or.inl ⟨by rfl, ?_⟩) ?_ ?_; rotate_left
              ·intro w'; go_simp; with_reducible rfl
              rotate_left
              ·simp only [Act.put, List.setIfInBounds_toArray, List.set_cons_zero, List.set_cons_succ, i64_w, i32_w]; rfl
              refine done_ (by kernel_rfl) (Nout.normal ?_); gi_wp2; gi_roundg k1
              case measure => exact Nat.lt_succ_self _
              case rel =>
                have h1 := HST.out; rw [if_neg (HC.out)] at h1; refine ⟨dd + 1, tt + 1, by simp, HNX, ⟨by rw [h1]; exact Kd.R_drew HR.out⟩, ⟨HK.out.trans ((KeepsOthers.drew _).from _)⟩, ⟨HS.out.trans (fun _ _ _ => rfl)⟩, ⟨below_drew HB.out⟩⟩
        · have c1b : decide (0 ≤ vt) = false := decide_eq_false c1
          have HC : Aside0 (¬ (0 ≤ vt ∧ (vf < 0 ∨ vn < vf))) := ⟨fun h => c1 h.1⟩; clear c1; refine mild_region (by kernel_rfl) (n := 24) (S := (fun w' => w'.cell? ⟨W3.heap.size, 0, none⟩ = some (.slice (some ⟨go, 0, none⟩) (a0.size + 2) co) ∧ w'.cell? ⟨go, tt, none⟩ = some (.int .i64 vt) ∧ w'.cell? ⟨go, fr, none⟩ = some (.int .i64 vf))) (ds := []) (dn_ 24 0) (by kernel_rfl) rfl rfl ⟨ho1, hxt, hxf⟩ (fun hHeld => ?_); refine take_ (i := 0) (N := some 37) (v := ?_) (a' := ?_) (dn_ 24 1) rfl rfl (by kernel_rfl) (fun _ _ _ h => h) (Or.inl ⟨by rfl, ?_⟩) hHeld ?_ ?_; rotate_left
          ·rintro w' ⟨s0, s1, s2⟩; go_simp; with_reducible rfl
          rotate_left
          ·simp only [Act.put, List.setIfInBounds_toArray, List.set_cons_zero, List.set_cons_succ, i64_w, i32_w]; rfl
          refine pure_ (i := 1) (N := some 38) (v := ?_) (a' := ?_) (dn_ 24 3) rfl rfl (by kernel_rfl) (fun _ _ _ h => h) (Or.inl ⟨by rfl, ?_⟩) ?_ ?_; rotate_left
          ·intro w'; go_simp; with_reducible rfl
          rotate_left
          ·simp only [Act.put, List.setIfInBounds_toArray, List.set_cons_zero, List.set_cons_succ, i64_w, i32_w]; rfl
          refine pure_ (i := 2) (N := some 39) (v := ?_) (a' := ?_) (dn_ 24 7) rfl rfl (by kernel_rfl) (fun _ _ _ h => h) (Or.inl ⟨by rfl, ?_⟩) ?_ ?_; rotate_left
          ·intro w'; go_simp; with_reducible rfl
          rotate_left
          ·simp only [Act.put, List.setIfInBounds_toArray, List.set_cons_zero, List.set_cons_succ, i64_w, i32_w]; rfl
          refine take_ (i := 3) (N := some 40) (v := ?_) (a' := ?_) (dn_ 24 15) rfl rfl (by kernel_rfl) (fun _ _ _ h => h) (Or.inl ⟨by rfl, ?_⟩) hHeld ?_ ?_; rotate_left
          ·rintro w' ⟨s0, s1, s2⟩; go_simp; with_reducible rfl
          rotate_left
          ·simp only [Act.put, List.setIfInBounds_toArray, List.set_cons_zero, List.set_cons_succ, i64_w, i32_w]; rfl
          refine pure_ (i := 4) (N := some 41) (v := ?_) (a' := ?_) (dn_ 24 31) rfl rfl (by kernel_rfl) (fun _ _ _ h => h) (Or.inl ⟨by rfl, ?_⟩) ?_ ?_; rotate_left
          ·intro w'; go_simp; with_reducible rfl
          rotate_left
          ·simp only [Act.put, List.setIfInBounds_toArray, List.set_cons_zero, List.set_cons_succ, i64_w, i32_w]; rfl
          refine pure_ (i := 5) (N := some 42) (v := ?_) (a' := ?_) (dn_ 24 63) rfl rfl (by kernel_rfl) (fun _ _ _ h => h) (Or.inl ⟨by rfl, ?_⟩) ?_ ?_; rotate_left
          ·intro w'; go_simp; with_reducible rfl
          rotate_left
          ·simp only [Act.put, List.setIfInBounds_toArray, List.set_cons_zero, List.set_cons_succ, i64_w, i32_w]; rfl
          refine pure_ (i := 6) (N := some 43) (v := undef) (a' := ?_) (dn_ 24 127) rfl rfl (by kernel_rfl) (fun _ _ _ h => h) (Or.inr ⟨by rfl, rfl⟩) ?_ ?_; rotate_left
          ·simp only [Act.put, List.setIfInBounds_toArray, List.set_cons_zero, List.set_cons_succ, i64_w, i32_w]; rfl
          refine pure_ (i := 7) (N := some 44) (v := undef) (a' := ?_) (dn_ 24 255) rfl rfl (by kernel_rfl) (fun _ _ _ h => h) (Or.inr ⟨by rfl, rfl⟩) ?_ ?_; rotate_left
          ·simp only [Act.put, List.setIfInBounds_toArray, List.set_cons_zero, List.set_cons_succ, i64_w, i32_w]; rfl
          refine pure_ (i := 8) (N := some 45) (v := undef) (a' := ?_) (dn_ 24 511) rfl rfl (by kernel_rfl) (fun _ _ _ h => h) (Or.inr ⟨by rfl, rfl⟩) ?_ ?_; rotate_left
          ·simp only [Act.put, List.setIfInBounds_toArray, List.set_cons_zero, List.set_cons_succ, i64_w, i32_w]; rfl
          refine pure_ (i := 9) (N := some 46) (v := undef) (a' := ?_) (dn_ 24 1023) rfl rfl (by kernel_rfl) (fun _ _ _ h => h) (Or.inr ⟨by rfl, rfl⟩) ?_ ?_; rotate_left
          ·simp only [Act.put, List.setIfInBounds_toArray, List.set_cons_zero, List.set_cons_succ, i64_w, i32_w]; rfl
          refine pure_ (i := 10) (N := some 47) (v := undef) (a' := ?_) (dn_ 24 2047) rfl rfl (by kernel_rfl) (fun _ _ _ h => h) (Or.inr ⟨by rfl, rfl⟩) ?_ ?_; rotate_left
          ·simp only [Act.put, List.setIfInBounds_toArray, List.set_cons_zero, List.set_cons_succ, i64_w, i32_w]; rfl
          refine pure_ (i := 11) (N := some 48) (v := undef) (a' := ?_) (dn_ 24 4095) rfl rfl (by kernel_rfl) (fun _ _ _ h => h) (Or.inr ⟨by rfl, rfl⟩) ?_ ?_; rotate_left
          ·simp only [Act.put, List.setIfInBounds_toArray, List.set_cons_zero, List.set_cons_succ, i64_w, i32_w]; rfl
          refine pure_ (i := 12) (N := some 49) (v := undef) (a' := ?_) (dn_ 24 8191) rfl rfl (by kernel_rfl) (fun _ _ _ h => h) (Or.inr ⟨by rfl, rfl⟩) ?_ ?_; rotate_left
          ·simp only [Act.put, List.setIfInBounds_toArray, List.set_cons_zero, List.set_cons_succ, i64_w, i32_w]; rfl
          refine pure_ (i := 13) (N := some 50) (v := undef) (a' := ?_) (dn_ 24 16383) rfl rfl (by kernel_rfl) (fun _ _ _ h => h) (Or.inr ⟨by rfl, rfl⟩) ?_ ?_; rotate_left
          ·simp only [Act.put, List.setIfInBounds_toArray, List.set_cons_zero, List.set_cons_succ, i64_w, i32_w]; rfl
          refine pure_ (i := 14) (N := some 51) (v := undef) (a' := ?_) (dn_ 24 32767) rfl rfl (by kernel_rfl) (fun _ _ _ h => h) (Or.inr ⟨by rfl, rfl⟩) ?_ ?_; rotate_left
          ·simp only [Act.put, List.setIfInBounds_toArray, List.set_cons_zero, List.set_cons_succ, i64_w, i32_w]; rfl
          refine pure_ (i := 15) (N := some 52) (v := undef) (a' := ?_) (dn_ 24 65535) rfl rfl (by kernel_rfl) (fun _ _ _ h => h) (Or.inr ⟨by rfl, rfl⟩) ?_ ?_; rotate_left
          ·simp only [Act.put, List.setIfInBounds_toArray, List.set_cons_zero, List.set_cons_succ, i64_w, i32_w]; rfl
          refine pure_ (i := 16) (N := some 53) (v := undef) (a' := ?_) (dn_ 24 131071) rfl rfl (by kernel_rfl) (fun _ _ _ h => h) (Or.inr ⟨by rfl, rfl⟩) ?_ ?_; rotate_left
          ·simp only [Act.put, List.setIfInBounds_toArray, List.set_cons_zero, List.set_cons_succ, i64_w, i32_w]; rfl
          refine pure_ (i := 17) (N := some 54) (v := undef) (a' := ?_) (dn_ 24 262143) rfl rfl (by kernel_rfl) (fun _ _ _ h => h) (Or.inr ⟨by rfl, rfl⟩) ?_ ?_; rotate_left
          ·simp only [Act.put, List.setIfInBounds_toArray, List.set_cons_zero, List.set_cons_succ, i64_w, i32_w]; rfl
          refine pure_ (i := 18) (N := some 55) (v := undef) (a' := ?_) (dn_ 24 524287) rfl rfl (by kernel_rfl) (fun _ _ _ h => h) (Or.inr ⟨by rfl, rfl⟩) ?_ ?_; rotate_left
          ·simp only [Act.put, List.setIfInBounds_toArray, List.set_cons_zero, List.set_cons_succ, i64_w, i32_w]; rfl
          refine pure_ (i := 19) (N := some 56) (v := undef) (a' := ?_) (dn_ 24 1048575) rfl rfl (by kernel_rfl) (fun _ _ _ h => h) (Or.inr ⟨by rfl, rfl⟩) ?_ ?_; rotate_left
          ·simp only [Act.put, List.setIfInBounds_toArray, List.set_cons_zero, List.set_cons_succ, i64_w, i32_w]; rfl
          refine pure_ (i := 20) (N := some 57) (v := undef) (a' := ?_) (dn_ 24 2097151) rfl rfl (by kernel_rfl) (fun _ _ _ h => h) (Or.inr ⟨by rfl, rfl⟩) ?_ ?_; rotate_left
          ·simp only [Act.put, List.setIfInBounds_toArray, List.set_cons_zero, List.set_cons_succ, i64_w, i32_w]; rfl
          refine pure_ (i := 21) (N := some 58) (v := undef) (a' := ?_) (dn_ 24 4194303) rfl rfl (by kernel_rfl) (fun _ _ _ h => h) (Or.inr ⟨by rfl, rfl⟩) ?_ ?_; rotate_left
          ·simp only [Act.put, List.setIfInBounds_toArray, List.set_cons_zero, List.set_cons_succ, i64_w, i32_w]; rfl
          refine pure_ (i := 22) (N := some 59) (v := undef) (a' := ?_) (dn_ 24 8388607) rfl rfl (by kernel_rfl) (fun _ _ _ h => h) (Or.inr ⟨by rfl, rfl⟩) ?_ ?_; rotate_left
          ·simp only [Act.put, List.setIfInBounds_toArray, List.set_cons_zero, List.set_cons_succ, i64_w, i32_w]; rfl
          refine pure_ (i := 23) (N := some 60) (v := ?_) (a' := ?_) (dn_ 24 16777215) rfl rfl (by kernel_rfl) (fun _ _ _ h => h) (Or.inl ⟨by rfl, ?_⟩) ?_ ?_; rotate_left
          ·intro w'; go_simp; with_reducible rfl
          rotate_left
          ·simp only [Act.put, List.setIfInBounds_toArray, List.set_cons_zero, List.set_cons_succ, i64_w, i32_w]; rfl
          refine done_ (by kernel_rfl) (Nout.normal ?_); gi_wp2; gi_roundg k1
          case measure => exact Nat.lt_succ_self _
          case rel =>
            have h1 := HST.out; rw [if_neg (HC.out)] at h1; refine ⟨dd + 1, tt + 1, by simp, HNX, ⟨by rw [h1]; exact Kd.R_drew HR.out⟩, ⟨HK.out.trans ((KeepsOthers.drew _).from _)⟩, ⟨HS.out.trans (fun _ _ _ => rfl)⟩, ⟨below_drew HB.out⟩⟩
      · obtain ⟨hdc, hnt⟩ := lf_end HD.out hdd hc
        have hcn : decide ((tt : Int) ≤ hi) = false := decide_eq_false hnt; (have hIn : lfOut a0.size a1 fr o = lfIn fr o dd := by unfold lfOut; rw [← hc2, hdc]); have HIN := am hIn; have HHR := am (And.intro hr1 (And.intro hl1 ho1)); clear hIn hdd hc hc2 hdc hnt; gi_wp2; show R _; rw [HRI.out, HIN.out]; exact ⟨HK.out, HS.out, ⟨HHR.out, HR.out⟩, HB.out⟩
end
end Go.Proofs.YtfoflpomfmbjoaaDoor.X
end
