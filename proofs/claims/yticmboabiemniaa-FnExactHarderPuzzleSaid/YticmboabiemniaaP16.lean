import Derived.Test.YticmboabiemniaaP4
import Derived.Deep.RegionLaw
import Derived.Lib.SliceRun
section
/- slices.Delete of one element, in a row of the call's own: what stands behind moves up, the last place is zeroed. -/
--! fn slices.Delete[[]loop.example/g01352/impl.Clue,loop.example/g01352/impl.Clue]|slices_Delete_Clue|making|own 0 0
namespace Go.Proofs.Yticmboabiemniaa.X
open Go.Proofs.Yticmboabiemniaa.Sq Go.RowKit Go.Proofs.YticmboabiemniaaW.PrintWords Go.Proofs.YticmboabiemniaaW.PrintLast Go.Proofs.YticmboabiemniaaW.PrintMore
attribute [local go_sem] max2_int min2_int max_two min_two max_three min_three max_four min_four   -- for this text's walks alone
set_option linter.unusedVariables false
set_option linter.unusedSimpArgs false
def slices_Delete_Clue.f (l0 : List S55) (a1 a2 : Int) : Option (List S55) := if 0 ≤ a1 ∧ a1 + 1 = a2 ∧ a2 ≤ (l0.length : Int) then some (l0.eraseIdx a1.toNat) else none
theorem slices_Delete_Clue.clear {P : Program} {w : World} (t e ty : TypeId) (z : Value) (ht : P.underlying t = some (.slice e)) (hv : ∀ w, (zeroValue e).run P w = .ok z w) (h1 : ∀ u ∈ z.cells.toList, u.oneCell' = true) (b o c : Nat)
    (hc : ∀ j, j < z.cells.size → (w.cell? ⟨b, o + j, none⟩).isSome = true) (hf : ∀ j, j < z.cells.size → w.frozen? ⟨b, o + j, none⟩ = false) :
    (Builtin.clear_ #[t] ty #[.slice (some ⟨b, o, none⟩) 1 c]).run P w = .ok (.tuple #[]) (w.setCells b o z.cells.toList) := by
  have hzc : (Builtin.zeroCells z.cells 1).toList = z.cells.toList := by
    apply List.ext_getElem
    · simp [Builtin.zeroCells]
    · intro i h1 h2
      simp only [Array.length_toList] at h2
      simp [Builtin.zeroCells, Nat.mod_eq_of_lt h2, h2]
  have hst := run_storeCells_cells (P := P) b o z.cells.toList 0 w (by simpa using hc) (by simpa using hf) (by intro v hv'; exact h1 v hv')
  simp only [Nat.add_zero] at hst
  simp [Builtin.clear_, run_underlying ht, hv, hzc, hst]
theorem slices_Delete_Clue.tail {α : Type} {d : Kd α} {e : TypeId} {W : World} {base : Nat} {ok : Nat → Prop} {g m c : Nat} {xs : List α} (h : d.R e W base ok (.slice (some ⟨g, 0, none⟩) m c) xs) (vs : List Value) (o : Nat) (ho : m * d.sz ≤ o) (hov : o + vs.length ≤ c * d.sz) :
    d.R e (W.setCells g o vs) base ok (.slice (some ⟨g, 0, none⟩) m c) xs ∧ W.grownBy (W.setCells g o vs) (some g) ∧ ∀ j, j < vs.length → (W.cell? ⟨g, o + j, none⟩).isSome = true ∧ W.frozen? ⟨g, o + j, none⟩ = false := by
  obtain ⟨hn, _, _⟩ := Kd.R_reads' h
  obtain ⟨hok, inner, hown, hr⟩ := h
  rcases hown.2 with ⟨hv, _⟩ | ⟨g', cap', cur, hv, hb, hh, h1, h2, h3, h4⟩
  · cases hv
  injection hv with ha _ hc
  injection ha with ha
  injection ha with hg
  subst hg; subst hc
  obtain ⟨cur', h5, h6, h7⟩ := setCells_row vs o W cur hh (by omega)
  obtain ⟨s1, s2, s3, s4⟩ := setCells_same g vs o W
  have hfar : ∀ k', k' ≠ g → (W.setCells g o vs).heap[k']? = W.heap[k']? := fun k' hk' => setCells_far vs o k' hk'
  have hgo : some g = (Value.slice (some ⟨g, 0, none⟩) m c).ownBlock := by simp [Value.ownBlock]
  refine ⟨⟨hok, inner, ⟨hown.1, .inr ⟨g, c, cur', by rw [hn], hb, h5, h1, h2, by rw [h6, h3], ?_⟩⟩, ?_⟩, ⟨s1, s2, s3, by rw [s4]; exact Nat.le_refl _, fun k' _ hk' => hfar k' (fun he => hk' (by rw [he]))⟩, fun j hj => ⟨?_, blk_frozen hh _⟩⟩
  · have hxo : xs.length * d.sz ≤ o := by rw [← hn]; exact ho
    have hol : o ≤ cur.size := by omega
    rw [h7, List.append_assoc, List.take_append_of_le_length (l₁ := List.take o cur.toList) (by have e : cur.toList.length = cur.size := Array.length_toList; rw [List.length_take, e, Nat.min_eq_left hol]; exact hxo), List.take_take, Nat.min_eq_left hxo]
    exact h4
  · exact hr.imp_ (fun p q hp => d.M_move (fun k' hk' => hfar k' (fun he => hk'.2 (by rw [← hgo, he]))) hp)
  · rw [cell_of_row W g _ cur e (0, 0) hh]
    simp
    omega
set_option maxHeartbeats 4000000 in
set_option maxRecDepth 100000 in
theorem slices_Delete_Clue.calls (P0_ : Nat → Prop) (u9000_ : Value) (l0 : List S55) (a1 a2 : Int) (r : List S55) (w0 w : World) (hB : Below w0.heap.size w0 w) (ho0 : Kd.R k55 55 w w0.heap.size P0_ u9000_ l0) (h : slices_Delete_Clue.f l0 a1 a2 = some r) :
    Calls Try.prog 40 #[u9000_, .int .i64 a1, .int .i64 a2] w fun e w' => ∃ v0_ : Value, e = .returned (v0_) ∧ Kd.R k55 55 w' w0.heap.size (fun k_ => (P0_ k_ ∨ w.heap.size ≤ k_)) v0_ r ∧ Below w0.heap.size w0 w' ∧ Kept w w' (fun k_ => P0_ k_) := by
  unfold slices_Delete_Clue.f at h
  by_cases hc : 0 ≤ a1 ∧ a1 + 1 = a2 ∧ a2 ≤ (l0.length : Int)
  rotate_left
  · rw [if_neg hc] at h
    cases h
  rw [if_pos hc] at h
  obtain ⟨h0, h1, h2⟩ := hc
  obtain rfl := Option.some.inj h
  clear h
  obtain ⟨i0, hi0, hz0, hsz0, hby0⟩ := info_parts info55
  -- the row
  obtain ⟨g, c, rfl⟩ : ∃ g c, u9000_ = .slice (some ⟨g, 0, none⟩) l0.length c := by
    obtain ⟨_, inner, ho, _⟩ := ho0
    rcases ho.2 with ⟨_, hn⟩ | ⟨g, cap, cur, hv, _⟩
    · omega
    · exact ⟨g, cap, hv⟩
  obtain ⟨_, hlc, _⟩ := Kd.R_reads' ho0
  have hbase : w0.heap.size ≤ w.heap.size := hB.size
  have hcm : c ≤ maxLen := by
    obtain ⟨_, inner, ho, _⟩ := ho0
    rcases ho.2 with ⟨hv, hn⟩ | ⟨g', cap, cur, hv, _, _, _, hm, _⟩
    · omega
    · injection hv with _ _ e
      omega
  unfold maxLen at hcm
  obtain ⟨k, hk⟩ : ∃ k : Nat, a1 = (k : Int) := Int.eq_ofNat_of_zero_le h0
  have ha2 : a2 = ((k + 1 : Nat) : Int) := by omega
  subst hk
  have hkn : k < l0.length := by omega
  have hne : ((k : Int) == a2) = false := by rw [beq_eq_false_iff_ne]; omega
  have hs3 : ∀ W : World, (Instr.slice 29 (.slice (some ⟨g, 0, none⟩) l0.length c) (some (.int .i64 (k : Int))) (some (.int .i64 a2)) (some (.int .i64 (l0.length : Int)))).run Try.prog W = .ok (.slice (if l0.length = k then (some ⟨g, 0, none⟩) else (some (⟨g, 0, none⟩ : Addr)).map (·.add (k * 3))) 1 (l0.length - k)) W := by
    intro W
    have hel : Try.prog.elem 29 = 55 := by simp [Program.elem, Try.underlying29]
    have hu : Try.prog.underlying 29 = some (.slice (Try.prog.elem 29)) := by rw [hel]; exact Try.underlying29
    rw [run_slice_lhm W 29 (some ⟨g, 0, none⟩) l0.length c hu .i64 .i64 .i64 (k : Int) a2 (l0.length : Int) (by omega) (by omega) (by omega) (by omega), hel]
    have e2 : a2.toNat = k + 1 := by omega
    simp [sizeOf, typeInfo, hi0, hsz0, sliced, Result.andThen, e2]
  have hsa := cut_to (P := Try.prog) 29 55 .i64 Try.underlying29 hi0 (some ⟨g, 0, none⟩) l0.length c (k : Int) (by omega) (by omega) hlc
  have hsb := cut_from (P := Try.prog) 29 55 .i64 Try.underlying29 hi0 3 hsz0 (some ⟨g, 0, none⟩) l0.length c a2 (by omega) (by omega)
  rw [Int.toNat_natCast] at hsa
  rw [show a2.toNat = k + 1 by omega] at hsb
  have hsc : ∀ W : World, (Instr.slice 29 (.slice (some ⟨g, 0, none⟩) (l0.length - 1) c) (some (.int .i64 ((l0.length - 1 : Nat) : Int))) (some (.int .i64 (l0.length : Int))) none).run Try.prog W = .ok (.slice (some ⟨g, (l0.length - 1) * 3, none⟩) 1 (c - (l0.length - 1))) W := by
    intro W
    have hel : Try.prog.elem 29 = 55 := by simp [Program.elem, Try.underlying29]
    have hu : Try.prog.underlying 29 = some (.slice (Try.prog.elem 29)) := by rw [hel]; exact Try.underlying29
    rw [run_slice_lh W 29 (some ⟨g, 0, none⟩) (l0.length - 1) c hu .i64 .i64 ((l0.length - 1 : Nat) : Int) (l0.length : Int) (by omega) (by omega) (by omega), hel]
    have e1 : ¬ (c = l0.length - 1) := by omega
    have e2 : l0.length - (l0.length - 1) = 1 := by omega
    simp [sizeOf, typeInfo, hi0, hsz0, sliced, Result.andThen, e1, e2, Addr.add]
    try omega
  have hzv : ∀ W, (zeroValue 55).run Try.prog W = .ok (.agg #[.int .i64 0, .int .i64 0, .int .i64 0]) W := fun W => by simp [zeroValue, typeInfo, hi0, hz0]
  have hcl : ∀ (W : World) (ty : TypeId), Kd.R k55 55 W w0.heap.size P0_ (.slice (some ⟨g, 0, none⟩) (l0.length - 1) c) (l0.eraseIdx k) → (Builtin.clear_ #[29] ty #[.slice (some ⟨g, (l0.length - 1) * 3, none⟩) 1 (c - (l0.length - 1))]).run Try.prog W = .ok (.tuple #[]) (W.setCells g ((l0.length - 1) * 3) [.int .i64 0, .int .i64 0, .int .i64 0]) := fun W ty hR => by
    obtain ⟨_, _, h5⟩ := slices_Delete_Clue.tail hR [.int .i64 0, .int .i64 0, .int .i64 0] ((l0.length - 1) * 3) (Nat.le_refl _) (by show (l0.length - 1) * 3 + 3 ≤ c * 3; omega)
    exact slices_Delete_Clue.clear 29 55 ty (.agg #[.int .i64 0, .int .i64 0, .int .i64 0]) Try.underlying29 hzv (by intro u hu; simp [Value.cells] at hu; subst hu; rfl) g _ _ (fun j hj => (h5 j hj).1) (fun j hj => (h5 j hj).2)
  have hlen : (l0.eraseIdx k).length = l0.length - 1 := by rw [List.length_eraseIdx_of_lt hkn]
  obtain ⟨A, hA⟩ : ∃ A : Option Addr, A = (if c = k + 1 then some ⟨g, 0, none⟩ else (some (⟨g, 0, none⟩ : Addr)).map (·.add ((k + 1) * 3))) := ⟨_, rfl⟩
  rw [← hA] at hsb
  have HA := Aside0.mk hA
  clear hA
  go_enter Try.func40, Try.ntmps40
  have HA2 := Aside0.mk ha2
  clear ha2 h1
  go_wp2_with fail
  have HO := Aside0.mk ho0
  have HBB := Aside0.mk hB
  have HCL := Aside0.mk hcl
  have HL := Aside0.mk hlen
  clear ho0 hB hcl hlen
  go_region_law (refine Kd.R_delete_step k55 (w0 := w0) w0.heap.size (by rfl) (.tmp 22) (.tmp 25) 29 55 rfl Try.underlying29 (by rw [hi0]; exact congrArg some hsz0) (g := g) (n := l0.length) (c := c) (k := k) (m := l0.length - (k + 1)) (c2 := c - (k + 1)) (A := A) (xs := l0) (ok := P0_) (by rfl) (by rfl) HA.out rfl (by (with_reducible repeat (first | apply Kd.R_drewN | apply Kd.R_drew)); exact HO.out) hkn (by (with_reducible repeat (first | apply pw_below_drewN | apply below_drew1)); exact HBB.out) hbase ?_; intro w1 hR1 hB1 hg1)
  all_goals
    have hclw := fun ty => HCL.out w1 ty hR1
    have HR1 := Aside0.mk hR1
    have HB1 := Aside0.mk hB1
    have HG1 := Aside0.mk hg1
    clear hR1 hB1 hg1
    go_wp2
    go_ret
    obtain ⟨h3, h4, _⟩ := slices_Delete_Clue.tail HR1.out [.int .i64 0, .int .i64 0, .int .i64 0] ((l0.length - 1) * 3) (Nat.le_refl _) (by show (l0.length - 1) * 3 + 3 ≤ c * 3; omega)
    have hPg : P0_ g := HO.out.1 g (by simp [Value.ownBlock])
    have hgb : w0.heap.size ≤ g := Kd.R_base HO.out g (by simp [Value.ownBlock])
    refine ⟨_, rfl, Kd.R_mono h3 (fun _ hk => .inl hk), HB1.out.grown h4 (Nat.le_trans hbase (by have := HG1.out.size; exact this)) (fun k_ e_ => by injection e_ with e_; subst e_; exact hgb), ?_⟩
    exact Kept.of_grown (S := fun k_ => P0_ k_) h4 (Kept.of_grown (S := fun k_ => P0_ k_) HG1.out (Kept.refl _ _) (fun k_ e_ => by injection e_ with e_; subst e_; exact .inl hPg)) (fun k_ e_ => by injection e_ with e_; subst e_; exact .inl hPg)
end Go.Proofs.Yticmboabiemniaa.X
end
