import Derived.Test.YtonifgfgeollaaaP4
import Derived.Test.YtonifgfgeollaaaP14
import Derived.Lib.ConvBytes
import Derived.Lib.AtoiErrMem
import Derived.Lib.SmallJoins
import Derived.Laws.BytesString
import Derived.Laws.BytesArg
section
/- SureSigns: a string's bytes, written over where two rivers differ. -/
--! fn impl.SureSigns|impl_SureSigns|rounds|making
--! uses impl.Solutions
namespace Go.Proofs.Ytonifgfgeollaaa.X
open Go.Proofs.Ytonifgfgeollaaa.Sq Go.RowKit Go.Proofs.YtonifgfgeollaaaW.PrintWords Go.Proofs.YtonifgfgeollaaaW.PrintLast Go.Proofs.YtonifgfgeollaaaW.PrintMore
attribute [local go_sem] max2_int min2_int max_two min_two max_three min_three max_four min_four   -- for this text's walks alone
set_option linter.unusedVariables false
set_option linter.unusedSimpArgs false
mutual
def impl_SureSigns.l0 : Nat → List ByteArray → List Int → Nat → Option ByteArray
 | 0, _, _, _ => none
 | k + 1, L, out, j => if j < L.length then impl_SureSigns.l1 k L out j 0 else some (strOfNums out)
def impl_SureSigns.l1 : Nat → List ByteArray → List Int → Nat → Nat → Option ByteArray
 | 0, _, _, _, _ => none
 | k + 1, L, out, j, i => if i < (L.getD j ByteArray.empty).size then (if i < (L.getD 0 ByteArray.empty).size then (if (L.getD j ByteArray.empty).data.toList.getD i 0 = (L.getD 0 ByteArray.empty).data.toList.getD i 0 then impl_SureSigns.l1 k L out j (i + 1) else impl_SureSigns.l1 k L (out.set i 63) j (i + 1)) else none) else impl_SureSigns.l0 k L out (j + 1)
end
def numsOf (s : ByteArray) : List Int := s.data.toList.map fun b => (b.toNat : Int)
def impl_SureSigns.f (k : Nat) (a0_0 : Int) (l0_1 : List S25) : Option (ByteArray × Bool) := (impl_Solutions.f k a0_0 l0_1).bind fun t => if t.1.length = 0 then some (⟨#[]⟩, false) else if t.1.length ≤ 100000 ∧ (t.1.getD 0 ByteArray.empty).size ≤ 1000 then ((impl_SureSigns.l0 k t.1 (numsOf (t.1.getD 0 ByteArray.empty)) 0).bind fun b => some (b, true)) else none
/-- Block g's first cells hold these bytes. -/
def BR (W : World) (g : Nat) (out : List Int) : Prop := ∃ cur : Array Value, W.heap[g]? = some (.cells cur 5 (cur.size, cur.size + 1)) ∧ out.length ≤ cur.size ∧ ∀ i, i < out.length → cur[i]? = some (.int .u8 (out.getD i 0))
theorem BR.cell {W : World} {g : Nat} {out : List Int} (h : BR W g out) (i : Nat) (hi : i < out.length) : W.cell? ⟨g, i, none⟩ = some (.int .u8 (out.getD i 0)) := by
  obtain ⟨cur, hh, _, hc⟩ := h
  rw [cell_of_row W g i cur 5 _ hh]
  exact hc i hi
theorem BR.frozen {W : World} {g : Nat} {out : List Int} (h : BR W g out) (i : Nat) (hi : i < out.length) : W.frozen? ⟨g, i, none⟩ = false := by
  obtain ⟨cur, hh, hl, hc⟩ := h
  simp [World.frozen?, hh]
  omega
theorem BR.set {W : World} {g : Nat} {out : List Int} (h : BR W g out) (i : Nat) (v : Int) : BR (W.setCell ⟨g, i, none⟩ (.int .u8 v)) g (out.set i v) := by
  obtain ⟨cur, hh, hl, hc⟩ := h
  refine ⟨cur.setIfInBounds i (.int .u8 v), by simp [World.setCell, Array.getElem?_modify, hh], by simpa using hl, fun j hj => ?_⟩
  rw [List.length_set] at hj
  rw [Array.getElem?_setIfInBounds, List.getD_eq_getElem?_getD, List.getElem?_set]
  by_cases hij : i = j
  · subst hij
    have : i < cur.size := by omega
    simp [this, hj]
  · rw [if_neg hij, if_neg hij, hc j hj, List.getD_eq_getElem?_getD]
theorem BR.drew {W : World} {g : Nat} {out : List Int} (h : BR W g out) : BR W.drew g out := h
theorem ss_get (s : ByteArray) (i : Nat) (h : i < s.size) : s[i]'h = s.data.toList.getD i 0 := by
  have h' : i < s.data.size := h
  rw [List.getD_eq_getElem?_getD, Array.getElem?_toList, Array.getElem?_eq_getElem h']
  rfl
theorem BR.start (w : World) (s : ByteArray) : BR (Lib.bytesWorld w 5 s) w.heap.size (numsOf s) := by
  refine ⟨_, Lib.bytesWorld_at_new w 5 s, ?_, fun i hi => ?_⟩
  · unfold numsOf Lib.bytesCells
    simp
  · have hi' : i < s.data.size := by unfold numsOf at hi; simpa using hi
    unfold Lib.bytesCells numsOf
    rw [Array.getElem?_append_left (by simpa using hi')]
    simp [Array.getElem?_eq_getElem hi']
theorem ss_at {w : World} {A : Option Addr} {n : Nat} {L : List ByteArray} (h : Kd.C Kd.string w A n L) (i : Nat) (hi : (i : Int) < (n : Int)) : ∃ ad, A = some ad ∧ w.cell? (ad.add i) = some (.string (L.getD i ByteArray.empty)) := by
  obtain ⟨ad, c, hA, hc, hr, hcc⟩ := ReadsRow.get_ h ByteArray.empty (i : Int) (by omega) (by omega)
  rw [Int.toNat_natCast] at hr hcc
  have hr' : c = [.string (L.getD i ByteArray.empty)] := hr
  subst hr'
  refine ⟨ad, hA, ?_⟩
  have h_ := hcc 0 _ rfl
  have e_ : i * Kd.string.sz + 0 = i := by
    show i * 1 + 0 = i
    omega
  rw [e_] at h_
  exact h_
theorem ss_zero (ad : Addr) : ad.add 0 = ad := by cases ad; rfl
set_option maxHeartbeats 8000000 in
set_option maxRecDepth 100000 in
theorem impl_SureSigns.calls (k : Nat) (a0_0 : Int) (A0_1 : Option Addr) (c0_1 : Nat) (l0_1 : List S25) (r1 : ByteArray) (r2 : Bool) (w : World) (hr0_1 : Kd.C k25 w A0_1 l0_1.length l0_1) (hc0_1 : l0_1.length ≤ c0_1) (h : impl_SureSigns.f k a0_0 l0_1 = some (r1, r2)) :
  Calls Try.prog 37 #[.agg #[.int .i64 a0_0, .slice A0_1 l0_1.length c0_1]] w fun e w' => e = .returned (.tuple #[.string r1, .bool r2]) ∧ Below w.heap.size w w' := by
  unfold impl_SureSigns.f at h
  obtain ⟨⟨L, t2⟩, ht, h⟩ := Option.bind_eq_some_iff.1 h
  have HR0 := am hr0_1
  have HT := am ht
  by_cases hL : L.length = 0
  · rw [if_pos hL] at h
    obtain ⟨rfl, rfl⟩ := Prod.mk.inj (Option.some.inj h)
    clear h hr0_1 ht
    go_enter Try.func37, Try.ntmps37
    go_wp2_with (go_at_call 44; (with_reducible refine (impl_Solutions.calls k a0_0 _ _ l0_1 L t2 _ ?s hc0_1 HT.out).mono ?_); (case s => repeat (first | exact HR0.out | (with_reducible refine Kd.C_alloc ?_ _) | (with_reducible refine Kd.C_drewN ?_ _) | (with_reducible refine Kd.C_drew ?_))); rintro e w2 ⟨v, rfl, ho, hb⟩; obtain ⟨A, c, rfl, hl, hC⟩ := Kd.R_reads ho; rw [hL])
    exact ⟨rfl, .tuple #[.string ⟨#[]⟩, .bool false], by first | rfl | (unfold results; rfl) | (simp [results, Try.f37]; done), rfl, below_step (below_alloc (Below.refl _ _) _) hb⟩
  · rw [if_neg hL] at h
    by_cases hq : L.length ≤ 100000 ∧ (L.getD 0 ByteArray.empty).size ≤ 1000
    rotate_left
    · rw [if_neg hq] at h
      cases h
    rw [if_pos hq] at h
    obtain ⟨hq1, hq2⟩ := hq
    obtain ⟨b, hb1, h⟩ := Option.bind_eq_some_iff.1 h
    obtain ⟨rfl, rfl⟩ := Prod.mk.inj (Option.some.inj h)
    have HB1 := am hb1
    obtain ⟨s0, hs0⟩ : ∃ s0, L.getD 0 ByteArray.empty = s0 := ⟨_, rfl⟩
    clear h hr0_1 ht hb1
    have hnz : ((L.length : Int) == 0) = false := by rw [beq_eq_false_iff_ne]; omega
    have hnz2 : (L.length == 0) = false := by rw [beq_eq_false_iff_ne]; omega
    have hn0 : (0 : Int) < (L.length : Int) := by omega
    have hn0d := eq_true hn0
    have hn0n := eq_true (show 0 < L.length by omega)
    have hLnn := eq_false (show ¬ L = [] by rintro rfl; exact hL rfl)
    have hLzz := eq_false hL
    go_enter Try.func37, Try.ntmps37
    go_wp2_with (go_at_call 44; (with_reducible refine (impl_Solutions.calls k a0_0 _ _ l0_1 L t2 _ ?s hc0_1 HT.out).mono ?_); (case s => repeat (first | exact HR0.out | (with_reducible refine Kd.C_alloc ?_ _) | (with_reducible refine Kd.C_drewN ?_ _) | (with_reducible refine Kd.C_drew ?_))); rintro e w2 ⟨v, rfl, ho, hb⟩; obtain ⟨A, c, rfl, hl, hC⟩ := Kd.R_reads ho; obtain ⟨ad, hA, hx0⟩ := ss_at hC 0 hn0; subst hA; rw [ss_zero, hs0] at hx0)
    have hcv := Lib.run_convert_string_bytes (P := Try.prog) w2 9 73 5 s0 Try.underlying9 Try.underlying73 Try.underlying5
    rw [hcv]
    have hbb : Below w2.heap.size w2 (Lib.bytesWorld w2 5 s0) := Go.Joins.below_bytesWorld _ w2 5 s0 (Nat.le_refl _)
    have hBR := BR.start w2 s0
    have HRo := am ho
    have HBw := am (below_step (below_alloc (Below.refl _ _) _) hb)
    clear ho hb hC hcv
    generalize Lib.bytesWorld w2 5 s0 = W0 at hbb hBR ⊢
    have HBB := am hbb
    have HBR := am hBR
    clear hbb hBR
    have hl0 : (numsOf s0).length = s0.size := by unfold numsOf; rw [List.length_map]; exact Array.length_toList
    rw [hs0] at HB1 hq2
    have HD := am hs0
    have HX := am hx0
    have HL := am hl
    clear hx0 h hL hl hs0
    go_simp
    go_wp2
    go_loopg [24] k (fun kq v24 w' => ∃ (j : Nat) (out : List Int), v24 = .int .i64 (j : Int) ∧ Aside0 (impl_SureSigns.l0 kq L out j = some b) ∧ Aside0 (kq ≤ k) ∧ Aside0 (BR w' w2.heap.size out ∧ out.length = s0.size) ∧ Aside0 (Below w2.heap.size w2 w'))
    case atStart => exact ⟨0, numsOf s0, rfl, HB1, ⟨Nat.le_refl _⟩, ⟨HBR.out, hl0⟩, HBB⟩
    case round =>
      obtain ⟨j, out, rfl, HA, HK1, HR, HB⟩ := hrel
      cases gk with
      | zero => exact absurd HA.out (by simp [impl_SureSigns.l0])
      | succ k1 =>
        have H := HA.out
        clear HA HB1 HBR HBB
        simp only [impl_SureSigns.l0] at H
        by_cases cj : j < L.length
        · rw [if_pos cj] at H
          have cjd : decide ((j : Int) < (L.length : Int)) = true := decide_eq_true (by omega)
          have cje : ((j : Int) < (L.length : Int)) = True := eq_true (by omega)
          have cj0 : (0 ≤ (j : Int)) = True := eq_true (by omega)
          have H' := am H
          clear H
          obtain ⟨ad', hA', hxj⟩ := ss_at (Kd.R_reads' HRo.out).2.2 j (by omega)
          obtain rfl := Option.some.inj hA'
          obtain ⟨sj, hsj⟩ : ∃ sj, L.getD j ByteArray.empty = sj := ⟨_, rfl⟩
          rw [hsj] at hxj
          have HJ := am hsj
          have hxw : wr.cell? (ad.add j) = some (.string sj) := (HB.out.cell (World.block_lt_of_cell? _ _ hxj)).trans hxj
          clear hA' hxj hsj
          go_wp2
          go_loopg [30] k1 (fun kq v30 w' => ∃ (i : Nat) (out2 : List Int), v30 = .int .i64 (i : Int) ∧ Aside0 (impl_SureSigns.l1 kq L out2 j i = some b) ∧ Aside0 (kq ≤ k1) ∧ Aside0 (BR w' w2.heap.size out2 ∧ out2.length = s0.size) ∧ Aside0 (Below w2.heap.size w2 w'))
          case atStart => exact ⟨0, out, rfl, H', ⟨Nat.le_refl _⟩, HR, HB⟩
          case round =>
            clear H' HR HB
            obtain ⟨i, out2, rfl, HA2, HK2, HR, HB⟩ := hrel
            cases gk with
            | zero => exact absurd HA2.out (by simp [impl_SureSigns.l1])
            | succ k2 =>
              have H := HA2.out
              clear HA2
              simp only [impl_SureSigns.l1] at H
              rw [HJ.out, HD.out] at H
              by_cases ci : i < sj.size
              · rw [if_pos ci] at H
                have cid : decide ((i : Int) < (sj.size : Int)) = true := decide_eq_true (by omega)
                have cie : ((i : Int) < (sj.size : Int)) = True := eq_true (by omega)
                have ci0 : (0 ≤ (i : Int)) = True := eq_true (by omega)
                by_cases c2 : i < s0.size
                · rw [if_pos c2] at H
                  have c2e : ((i : Int) < (s0.size : Int)) = True := eq_true (by omega)
                  have hx0 : wr.cell? ad = some (.string s0) := (HB.out.cell (World.block_lt_of_cell? _ _ HX.out)).trans HX.out
                  have hgj := ss_get sj i ci
                  have hg0 := ss_get s0 i c2
                  by_cases ce : sj.data.toList.getD i 0 = s0.data.toList.getD i 0
                  · rw [if_pos ce] at H
                    have hbe : (((sj[i]'ci).toNat : Int) != ((s0[i]'c2).toNat : Int)) = false := by rw [hgj, hg0, ce]; simp
                    have H' := am H
                    clear H hgj hg0 ce
                    go_upto_region 11 with (fail)
                    go_region_held3 (fun w' => w'.cell? ad = some (.string s0)) (first | go_keep) (first | fail)
                    all_goals go_wp2
                    all_goals go_roundg k2
                    all_goals first
                      | exact Nat.lt_succ_self _
                      | exact ⟨i + 1, out2, rfl, H', ⟨by have := HK2.out; omega⟩, ⟨HR.out.1.drew, HR.out.2⟩, ⟨below_drew HB.out⟩⟩
                  · rw [if_neg ce] at H
                    have hbe : (((sj[i]'ci).toNat : Int) != ((s0[i]'c2).toNat : Int)) = true := by
                      rw [hgj, hg0, bne_iff_ne]
                      intro he
                      exact ce (UInt8.toNat_inj.1 (by omega))
                    have H' := am H
                    clear H hgj hg0 ce
                    have hgw : w2.heap.size ≤ w2.heap.size := Nat.le_refl _
                    have hcw : wr.drew.cell? ⟨w2.heap.size, i, none⟩ = some (.int .u8 (out2.getD i 0)) := HR.out.1.drew.cell i (by rw [HR.out.2]; exact c2)
                    have hfw : wr.drew.frozen? ⟨w2.heap.size, i, none⟩ = false := HR.out.1.drew.frozen i (by rw [HR.out.2]; exact c2)
                    go_upto_region 11 with (fail)
                    go_region_held3 (fun w' => w'.cell? ad = some (.string s0)) (first | go_keep) (first | fail)
                    all_goals go_wp2
                    all_goals go_roundg k2
                    all_goals first
                      | exact Nat.lt_succ_self _
                      | exact ⟨i + 1, out2.set i 63, rfl, H', ⟨by have := HK2.out; omega⟩, ⟨HR.out.1.drew.set i 63, by rw [List.length_set]; exact HR.out.2⟩, ⟨(below_drew HB.out).setCell hgw _⟩⟩
                · rw [if_neg c2] at H
                  cases H
              · rw [if_neg ci] at H
                have cid : decide ((i : Int) < (sj.size : Int)) = false := decide_eq_false (by omega)
                have H' := am H
                clear H
                go_wp2
                go_roundg k2
                case measure => have := HK2.out; omega
                case rel => exact ⟨j + 1, out2, rfl, H', ⟨by have := HK1.out; have := HK2.out; omega⟩, HR, HB⟩
        · rw [if_neg cj] at H
          have cjd : decide ((j : Int) < (L.length : Int)) = false := decide_eq_false (by omega)
          obtain rfl := Option.some.inj H
          clear H
          go_wp2
          have hcb := run_convert_bytes_arg (P := Try.prog) wr 73 5 Try.underlying73 Try.underlying5 w2.heap.size 0 s0.size (grownCap w2 s0.size 0 5) out HR.out.2 (fun i hi => by rw [Nat.zero_add]; exact HR.out.1.cell i (by rw [HR.out.2]; exact hi)) 9 Try.underlying9
          rw [hcb]
          go_simp
          go_wp2
          exact ⟨rfl, .tuple #[.string (strOfNums out), .bool true], by first | rfl | (unfold results; rfl) | (simp [results, Try.f37]; done), rfl, below_step HBw.out HB.out⟩
end Go.Proofs.Ytonifgfgeollaaa.X
end
